/- Cut down from a longer text. -/
import Derived.Test.YtdacabdocbhkdaaGreatG14m
import Derived.Test.YtdacabdocbhkdaaGreatProg
set_option linter.unusedVariables false
set_option maxRecDepth 100000
namespace Go.Proofs.YtdacabdocbhkdaaGreat.D
open Go Go.Proofs L
noncomputable def T12 (F14:Y479)(F15:Y323)(F25:Y361)(F39:Y330)(F17:Y301)(F40:Y686)(F32:Y476):List FEnt:=[⟨14,sh14,F14⟩,⟨15,sh15,F15⟩,⟨25,sh25,F25⟩,⟨39,sh39,F39⟩,⟨17,sh17,F17⟩,⟨40,sh40,F40⟩,⟨32,sh32,F32⟩]
def h12_0:LSh:=⟨[3,4,5,7,8],⟨[(.ptr 0 0),(.ptr 1 0),(.ptr 2 0),(.ptr 3 0),(.v y13)],[(0,(.boxT y91)),(1,(.boxT y473)),(2,(.boxT y24)),(3,(.box [(.slc 4),(.slc 5),(.slc 6),(.slc 7),.emp])),(4,(.row 64 y24)),(5,(.row 42 y87)),(6,(.row 46 y67)),(7,(.row 59 y68))]⟩,[y13,y91,y473,y24,y35,y89,y77,y78],8,[0,1,2,3,4,5,6]⟩
def x12_0:List XSh:=[⟨(.exit 0),[3,4,5,7],⟨⟨[(.ptr 0 0),(.ptr 1 0),(.ptr 2 0),(.ptr 3 0)],[(0,(.boxT y91)),(1,(.boxT y473)),(2,(.boxT y24)),(3,(.box [(.slc 4),(.slc 5),(.slc 6),(.slc 7),.emp])),(4,(.row 64 y24)),(5,(.row 42 y87)),(6,(.row 46 y67)),(7,(.row 59 y68))]⟩,[y91,y473,y24,y35,y89,y77,y78],[0,1,2,3,4,5,6],8⟩⟩]
def h12_1:LSh:=⟨[3,4,5,7,9],⟨[(.ptr 0 0),(.ptr 1 0),(.ptr 2 0),(.ptr 3 0),(.v y13)],[(0,(.boxT y91)),(1,(.boxT y473)),(2,(.boxT y24)),(3,(.box [(.slc 4),(.slc 5),(.slc 6),(.slc 7),(.slc 8)])),(4,(.row 64 y24)),(5,(.row 42 y87)),(6,(.row 46 y67)),(7,(.row 59 y68)),(8,(.row 3 y13))]⟩,[y13,y91,y473,y24,y35,y89,y77,y78,y25],9,[0,1,2,3,4,5,6,7]⟩
def x12_1:List XSh:=[⟨(.exit 2),[3,4,5,7],⟨⟨[(.ptr 0 0),(.ptr 1 0),(.ptr 2 0),(.ptr 3 0)],[(0,(.boxT y91)),(1,(.boxT y473)),(2,(.boxT y24)),(3,(.box [(.slc 4),(.slc 5),(.slc 6),(.slc 7),(.slc 8)])),(4,(.row 64 y24)),(5,(.row 42 y87)),(6,(.row 46 y67)),(7,(.row 59 y68)),(8,(.row 3 y13))]⟩,[y91,y473,y24,y35,y89,y77,y78,y25],[0,1,2,3,4,5,6,7],9⟩⟩]
noncomputable def c12:=anF Tryz.prog [(8,{ch:=[0,1,0,0,0,0,0,0,0,0,0,0,0,0,0,1,0,0,1],rs:=[7] })] Tryz.f12 (.s .n (.s .n (.s .n (.s .n (.s (.s .n (.b (.l h12_0 x12_0 (.s .n (.s (.b (.r [.a 15 true y68,.a 16 true y68])) .n))))) (.s (.r [.a 4 true y68]) (.s (.s .n (.b (.l h12_1 x12_1 (.s .n (.s (.b (.r [.a 19 false y13,.a 20 false y13])) .n))))) (.s .n (.s .n (.s .n (.s .n (.s (.r [.f 9 155 [0],.f 9 155 [1],.f 9 155 [2]]) .n))))))))))))
noncomputable def s12_0 (T:List FEnt):=dstep (xs:=x12_0) h12_0 (dxc T (sb [1,1,1,1,0,1,2,2] c12))
noncomputable def l12_0 (T:List FEnt):=whileF (s12_0 T)
noncomputable def s12_1 (T:List FEnt):=dstep (xs:=x12_1) h12_1 (dxc T (sb [1,1,1,1,1,1,0,1,2,2] c12))
noncomputable def l12_1 (T:List FEnt):=whileF (s12_1 T)
def sh12:FSh:=⟨⟨[(.st y91),(.st y473),(.st y24)],[]⟩,[y91,y473,y24],0,⟨⟨[(.v .bool)],[]⟩,[.bool],[],0⟩,true⟩
noncomputable def q12 (F14:Y479)(F15:Y323)(F25:Y361)(F39:Y330)(F17:Y301)(F40:Y686)(F32:Y476)(l12_0:Y712)(l12_1:Y713)(a0:Y42)(a1:Y274)(a2:Int×Int):Option Bool:=
(F14 (a0,a1)).bind fun r1=>(
cond (!r1) (
(F15 ()).bind fun r2=>(
some r2)) (
cond (decide (9 < (↑a0.2.2.2.1.length:Int))) (
(F15 ()).bind fun r3=>(
some r3)) (
cond (decide (9 < (↑a0.2.2.2.2.length:Int))) (
(F15 ()).bind fun r4=>(
some r4)) (
cond (decide (a2.1 < 0)) (
(F15 ()).bind fun r5=>(
some r5)) (
cond (decide (100 < a2.1)) (
(F15 ()).bind fun r6=>(
some r6)) (
cond (decide (a2.2 < 0)) (
(F15 ()).bind fun r7=>(
some r7)) (
cond (decide ((↑a0.2.2.2.1.length:Int) < a2.2)) (
(F15 ()).bind fun r8=>(
some r8)) (
(F25 a0).bind fun r9=>(
(l12_0 (0,a0,a1,a2,r9.1,r9.2.1,r9.2.2.1,([]:List Y15))).bind fun y11=>(
chk (capOk 56 (List.length y11.2.2.2.2.2.2+List.length y11.2.2.2.2.2.2)) (
(l12_1 (0,y11.1,y11.2.1,y11.2.2.1,y11.2.2.2.1,y11.2.2.2.2.1,y11.2.2.2.2.2.1,(y11.2.2.2.2.2.2++y11.2.2.2.2.2.2),([]:List Int))).bind fun y12=>(
(F17 (y12.1,y12.2.1.1,y12.2.1.2.1,y12.2.1.2.2)).bind fun r13=>(
(F17 (y12.2.2.2,y12.2.1.1,y12.2.1.2.1,y12.2.1.2.2)).bind fun r14=>(
(F40 (y12.1,([]:List Y15),([]:List Int))).bind fun r15=>(
(F25 y12.1).bind fun r16=>(
chk (decide ((0:Int)≤0)) (
chk (decide (0≤y12.2.2.1.2)) (
chk (decide (y12.2.2.1.2≤(↑y12.1.2.2.2.1.length:Int))) (
chk (decide (0≤y12.2.2.1.2)) (
chk (decide (y12.2.2.1.2≤(↑y12.1.2.2.2.1.length:Int))) (
chk (decide ((↑y12.1.2.2.2.1.length:Int)≤(↑y12.1.2.2.2.1.length:Int))) (
(F40 ((r16.1,(r16.2.1,(r16.2.2.1,((cutL y12.1.2.2.2.1 0 y12.2.2.1.2),([]:List Int))))),(cutL y12.1.2.2.2.1 y12.2.2.1.2 (↑y12.1.2.2.2.1.length:Int)),y12.1.2.2.2.2)).bind fun r17=>(
cond (decide (r13.2.2=0)) (
cond (decide (r14.2.2=0)) (
cond (decide (r15.2.1=0)) (
cond (decide (r17.2.1=0)) (
cond (decide (r13.1=r14.1)) (
cond (decide (r13.2.1=r14.2.1)) (
(F32 ((r15.1,r15.2.2),(r17.1,r17.2.2))).bind fun r18=>(
cond r18 (
(F15 ()).bind fun r19=>(
some r19)) (
some false))) (
some false)) (
some false)) (
some false)) (
some false)) (
some false)) (
some false))))))))))))))))))))))))
theorem g12 (F14:Y479)(F15:Y323)(F25:Y361)(F39:Y330)(F17:Y301)(F40:Y686)(F32:Y476)(a0:Y42)(a1:Y274)(a2:Int×Int):dxf (T12 F14 F15 F25 F39 F17 F40 F32) sh12 [(.t 6)] c12 (a0,a1,a2)=q12 F14 F15 F25 F39 F17 F40 F32 (l12_0 (T12 F14 F15 F25 F39 F17 F40 F32)) (l12_1 (T12 F14 F15 F25 F39 F17 F40 F32)) a0 a1 a2:=by kernel_rfl
noncomputable def T25v1 (F39:Y330):List FEnt:=[⟨39,sh39,F39⟩]
theorem t25v1:DTblOK Tryz.prog (T25v1 P39):=(DTbl_cons' d39 (by kernel_rfl) DTbl_nil)
noncomputable def c25v1:=anF Tryz.prog [(1,{ch:=[1,0,1,0,1,0,1,0,0,0,0],rs:=[1],ord:=[0,1,2,4,5,6,3,7,8,9,10] }),(12,{ch:=[1,0,0,0,1,0,1,0,0,1,0,1],rs:=[7],ord:=[0,1,2,4,5,6,3,8,7,9,10,11] }),(17,{ch:=[0,1,0,0,0,0,0,0,1,0,0,1],rs:=[3] })] Tryz.f25 (.s .n (.s (.r [.a 6 true y24,.a 7 false y13]) (.s (.s .n (.b (.l h25_0 x25_0 (.s .n (.s (.b (.s .n (.s (.r [.a 0 false y13,.a 3 false y13]) (.r [.f 3 33 [],.a 3 true y87,.a 4 true y87])))) .n))))) (.s (.s .n (.b (.l h25_1 x25_1 (.s .n (.s (.b (.s .n (.s (.r [.a 6 false y13,.a 8 true y24]) (.r [.f 3 56 [],.f 3 60 [],.a 3 true y67,.a 4 true y67])))) .n))))) (.s (.s .n (.b (.l h25_2 x25_2 (.s .n (.s (.b (.r [.a 8 true y68,.a 9 true y68])) .n))))) (.s (.r [.f 2 87 [0],.f 2 87 [1],.f 2 87 [2],.f 2 87 [3],.f 2 87 [4]]) .n))))))
noncomputable def s25v1_0 (T:List FEnt):=dstep (xs:=x25_0) h25_0 (dxc T (sb [1,1,0,1,2,2] c25v1))
noncomputable def l25v1_0 (T:List FEnt):=whileF (s25v1_0 T)
noncomputable def q25v1_0 (F39:Y330)(a0:Int)(a1:Y42)(a2:List Y1)(a3:List Y12)(a4:List Int):Option Y374:=
cond (decide (a0 < (↑a1.2.1.length:Int))) (
chk (inR a0 a1.2.1.length) (
chk (capOk 8 (List.length ([]:List Int)+List.length ((ix a1.2.1 a0).2.2.2.2.2.2))) (
chk (capOk 72 (List.length a3+List.length ([((ix a1.2.1 a0).1,((ix a1.2.1 a0).2.1,((ix a1.2.1 a0).2.2.1,((ix a1.2.1 a0).2.2.2.1,((ix a1.2.1 a0).2.2.2.2.1,((ix a1.2.1 a0).2.2.2.2.2.1,(([]:List Int)++(ix a1.2.1 a0).2.2.2.2.2.2)))))))]:List Y12))) (
chk (fits .i64 (a0+1)) (
some (Sum.inl ((a0+1),a1,a2,(a3++([((ix a1.2.1 a0).1,((ix a1.2.1 a0).2.1,((ix a1.2.1 a0).2.2.1,((ix a1.2.1 a0).2.2.2.1,((ix a1.2.1 a0).2.2.2.2.1,((ix a1.2.1 a0).2.2.2.2.2.1,(([]:List Int)++(ix a1.2.1 a0).2.2.2.2.2.2)))))))]:List Y12)),a4))))))) (
some (Sum.inr (a1,a2,a4,a3)))
theorem g25v1_0 (F39:Y330)(a0:Int)(a1:Y42)(a2:List Y1)(a3:List Y12)(a4:List Int):s25v1_0 (T25v1 F39) (a0,a1,a2,a3,a4)=q25v1_0 F39 a0 a1 a2 a3 a4:=by kernel_rfl
noncomputable def p25v1_0:=q25v1_0 P39
noncomputable def L25v1_0:Y369:=whileF (fun x=>p25v1_0 x.1 x.2.1 x.2.2.1 x.2.2.2.1 x.2.2.2.2)
theorem v25v1_0:l25v1_0 (T25v1 P39) =L25v1_0:=congrArg whileF (funext fun x=>(g25v1_0 P39 x.1 x.2.1 x.2.2.1 x.2.2.2.1 x.2.2.2.2))
noncomputable def s25v1_1 (T:List FEnt):=dstep (xs:=x25_1) h25_1 (dxc T (sb [1,1,1,0,1,2,2] c25v1))
noncomputable def l25v1_1 (T:List FEnt):=whileF (s25v1_1 T)
noncomputable def q25v1_1 (F39:Y330)(a0:Int)(a1:Y42)(a2:List Y1)(a3:List Y12)(a4:List Y22)(a5:List Int):Option Y375:=
cond (decide (a0 < (↑a1.2.2.1.length:Int))) (
chk (inR a0 a1.2.2.1.length) (
chk (capOk 8 (List.length ((ix a1.2.2.1 a0).2.1))) (
chk (capOk 16 (List.length ((ix a1.2.2.1 a0).2.2))) (
chk (capOk 56 (List.length a4+List.length ([(ix a1.2.2.1 a0)]:List Y22))) (
chk (fits .i64 (a0+1)) (
some (Sum.inl ((a0+1),a1,a2,a3,(a4++([(ix a1.2.2.1 a0)]:List Y22)),a5)))))))) (
some (Sum.inr (a1,a2,a3,a5,a4)))
theorem g25v1_1 (F39:Y330)(a0:Int)(a1:Y42)(a2:List Y1)(a3:List Y12)(a4:List Y22)(a5:List Int):s25v1_1 (T25v1 F39) (a0,a1,a2,a3,a4,a5)=q25v1_1 F39 a0 a1 a2 a3 a4 a5:=by kernel_rfl
noncomputable def p25v1_1:=q25v1_1 P39
noncomputable def L25v1_1:Y370:=whileF (fun x=>p25v1_1 x.1 x.2.1 x.2.2.1 x.2.2.2.1 x.2.2.2.2.1 x.2.2.2.2.2)
theorem v25v1_1:l25v1_1 (T25v1 P39) =L25v1_1:=congrArg whileF (funext fun x=>(g25v1_1 P39 x.1 x.2.1 x.2.2.1 x.2.2.2.1 x.2.2.2.2.1 x.2.2.2.2.2))
noncomputable def s25v1_2 (T:List FEnt):=dstep (xs:=x25_2) h25_2 (dxc T (sb [1,1,1,1,0,1,2,2] c25v1))
noncomputable def l25v1_2 (T:List FEnt):=whileF (s25v1_2 T)
noncomputable def q25v1_2 (F39:Y330)(a0:Int)(a1:Y42)(a2:List Y1)(a3:List Y12)(a4:List Y22)(a5:List Y15)(a6:List Int):Option Y376:=
cond (decide (a0 < (↑a1.2.2.2.1.length:Int))) (
chk (inR a0 a1.2.2.2.1.length) (
(F39 (ix a1.2.2.2.1 a0)).bind fun r3=>(
chk (capOk 56 (List.length a5+List.length ([r3]:List Y15))) (
chk (fits .i64 (a0+1)) (
some (Sum.inl ((a0+1),a1,a2,a3,a4,(a5++([r3]:List Y15)),a6))))))) (
some (Sum.inr (a1,a2,a3,a4,a6,a5)))
theorem g25v1_2 (F39:Y330)(a0:Int)(a1:Y42)(a2:List Y1)(a3:List Y12)(a4:List Y22)(a5:List Y15)(a6:List Int):s25v1_2 (T25v1 F39) (a0,a1,a2,a3,a4,a5,a6)=q25v1_2 F39 a0 a1 a2 a3 a4 a5 a6:=by kernel_rfl
noncomputable def p25v1_2:=q25v1_2 P39
noncomputable def L25v1_2:Y371:=whileF (fun x=>p25v1_2 x.1 x.2.1 x.2.2.1 x.2.2.2.1 x.2.2.2.2.1 x.2.2.2.2.2.1 x.2.2.2.2.2.2)
theorem v25v1_2:l25v1_2 (T25v1 P39) =L25v1_2:=congrArg whileF (funext fun x=>(g25v1_2 P39 x.1 x.2.1 x.2.2.1 x.2.2.2.1 x.2.2.2.2.1 x.2.2.2.2.2.1 x.2.2.2.2.2.2))
theorem ok25v1:L.Fn Tryz.prog 25 88 [(.cell 2 true 5)] (erase c25v1):=Fn.ofA hmix Tryz.func25 _ _ (by kernel_rfl)
def sh25v1:FSh:=⟨⟨[(.st y91)],[]⟩,[y91],0,⟨⟨[(.st y91)],[]⟩,[y91],[],0⟩,false⟩
noncomputable def q25v1 (F39:Y330)(l25v1_0:Y369)(l25v1_1:Y370)(l25v1_2:Y371)(a0:Y42):Option Y42:=
chk (capOk 16 a0.1.length) (
chk (capOk 8 a0.2.2.2.2.length) (
(l25v1_0 (0,a0,a0.1,([]:List Y12),a0.2.2.2.2)).bind fun y1=>(
(l25v1_1 (0,y1.1,y1.2.1,y1.2.2.2,([]:List Y22),y1.2.2.1)).bind fun y2=>(
(l25v1_2 (0,y2.1,y2.2.1,y2.2.2.1,y2.2.2.2.2,([]:List Y15),y2.2.2.2.1)).bind fun y4=>(
some (y4.2.1,(y4.2.2.1,(y4.2.2.2.1,(y4.2.2.2.2.2,y4.2.2.2.2.1)))))))))
theorem g25v1 (F39:Y330)(a0:Y42):dxf (T25v1 F39) sh25v1 [(.cell 2 true 5)] c25v1 a0=q25v1 F39 (l25v1_0 (T25v1 F39)) (l25v1_1 (T25v1 F39)) (l25v1_2 (T25v1 F39)) a0:=by kernel_rfl
noncomputable def p25v1:=q25v1 P39 L25v1_0 L25v1_1 L25v1_2
noncomputable def P25v1:Y361:=fun x=>p25v1 x
theorem v25v1:dxf (T25v1 P39) sh25v1 [(.cell 2 true 5)] c25v1=P25v1:=funext fun x=>(g25v1 P39 x).trans (by rw[v25v1_0,v25v1_1,v25v1_2] <;> rfl)
theorem d25v1:DC Tryz.prog 25 sh25v1 P25v1:=DC_eq v25v1 (dxf_sound t25v1 ok25v1 (by kernel_rfl))
noncomputable def T72 (F86:Y97)(F39:Y330):List FEnt:=[⟨86,sh86,F86⟩,⟨39,sh39,F39⟩]
theorem t72:DTblOK Tryz.prog (T72 P86 P39):=(DTbl_cons' d86 (by kernel_rfl) (DTbl_cons' d39 (by kernel_rfl) DTbl_nil))
def h72_2:LSh:=⟨[0,3,4,5,6,7,8],⟨[(.v y78),(.slc 0),(.v y13),(.v y13),(.v y13),(.v .bool),(.v y13)],[(0,(.row 59 y68))]⟩,[y78,y13,y13,y13,.bool,y13,y78],1,[0]⟩
def x72_2:List XSh:=[⟨(.exit 4),[0,3,4,5,6,7],⟨⟨[(.v y78),(.slc 0),(.v y13),(.v y13),(.v y13),(.v .bool)],[(0,(.row 59 y68))]⟩,[y78,y13,y13,y13,.bool,y78],[0],1⟩⟩]
def h72_1:LSh:=⟨[0,3,4,5,6],⟨[(.v y78),(.slc 0),(.v y13),(.v y13),(.v y13)],[(0,(.row 59 y68))]⟩,[y78,y13,y13,y13,y78],1,[]⟩
def x72_1:List XSh:=[⟨(.exit 2),[0,3,4],⟨⟨[(.v y78),(.slc 0),(.v y13)],[(0,(.row 59 y68))]⟩,[y78,y13,y78],[],1⟩⟩]
def h72_0:LSh:=⟨[0,3,4],⟨[(.v y78),(.slc 0),(.v y13)],[(0,(.row 59 y68))]⟩,[y78,y13,y78],1,[]⟩
noncomputable def c72:=anF Tryz.prog [] Tryz.f72 (.s .n (.s .n (.s (.s .n (.b (.l h72_0 x52_0 (.s .n (.s (.b (.s .n (.s .n (.b (.l h72_1 x72_1 (.s .n (.s (.b (.s .n (.s (.s .n (.b (.l h72_2 x72_2 .n))) (.s .n (.s (.r [.a 6 true y68,.a 7 true y68]) .n))))) .n))))))) .n))))) .n)))
noncomputable def s72_2 (T:List FEnt):=dstep (xs:=x72_2) h72_2 (dxc T (sb [1,1,0,1,2,2,1,0,2,1,1,2,2,1,0,2,1,0,1,2,2] c72))
noncomputable def l72_2 (T:List FEnt):=whileF (s72_2 T)
noncomputable def q72_2 (F86:Y97)(F39:Y330)(a0:List Y15)(a1 a2 a3:Int)(a4:Bool)(a5:Int)(a6:List Y15):Option Y701:=
cond (decide (a5 < (↑a6.length:Int))) (
cond a4 (
chk (fits .i64 (a5+1)) (
some (Sum.inl (a0,a1,a2,a3,true,(a5+1),a6)))) (
chk (inR a5 a6.length) (
chk (inR a3 a0.length) (
(F86 ((ix a6 a5),(ix a0 a3))).bind fun r1=>(
chk (fits .i64 (a5+1)) (
some (Sum.inl (a0,a1,a2,a3,r1,(a5+1),a6)))))))) (
some (Sum.inr (a0,a1,a2,a3,a4,a6)))
theorem g72_2 (F86:Y97)(F39:Y330)(a0:List Y15)(a1 a2 a3:Int)(a4:Bool)(a5:Int)(a6:List Y15):s72_2 (T72 F86 F39) (a0,a1,a2,a3,a4,a5,a6)=q72_2 F86 F39 a0 a1 a2 a3 a4 a5 a6:=by kernel_rfl
noncomputable def p72_2:=q72_2 P86 P39
noncomputable def L72_2:Y699:=whileF (fun x=>p72_2 x.1 x.2.1 x.2.2.1 x.2.2.2.1 x.2.2.2.2.1 x.2.2.2.2.2.1 x.2.2.2.2.2.2)
theorem v72_2:l72_2 (T72 P86 P39) =L72_2:=congrArg whileF (funext fun x=>(g72_2 P86 P39 x.1 x.2.1 x.2.2.1 x.2.2.2.1 x.2.2.2.2.1 x.2.2.2.2.2.1 x.2.2.2.2.2.2))
noncomputable def s72_1 (T:List FEnt):=dstep (xs:=x72_1) h72_1 (dxc T (sb [1,1,0,1,2,2,1,0,2,1,1,2,2] c72))
noncomputable def l72_1 (T:List FEnt):=whileF (s72_1 T)
noncomputable def q72_1 (F86:Y97)(F39:Y330)(l72_2:Y699)(a0:List Y15)(a1 a2 a3:Int)(a4:List Y15):Option Y702:=
cond (decide (a3 < (↑a0.length:Int))) (
chk (inR a3 a0.length) (
(l72_2 (a0,a1,a2,a3,(!decide ((ix a0 a3).1=a1)),a2,a4)).bind fun y2=>(
cond (!y2.2.2.2.2.1) (
chk (inR y2.2.2.2.1 y2.1.length) (
(F39 (ix y2.1 y2.2.2.2.1)).bind fun r3=>(
chk (capOk 56 (List.length y2.2.2.2.2.2+List.length ([r3]:List Y15))) (
chk (fits .i64 (y2.2.2.2.1+1)) (
some (Sum.inl (y2.1,y2.2.1,y2.2.2.1,(y2.2.2.2.1+1),(y2.2.2.2.2.2++([r3]:List Y15))))))))) (
chk (fits .i64 (y2.2.2.2.1+1)) (
some (Sum.inl (y2.1,y2.2.1,y2.2.2.1,(y2.2.2.2.1+1),y2.2.2.2.2.2))))))) (
some (Sum.inr (a0,a1,a4)))
theorem g72_1 (F86:Y97)(F39:Y330)(a0:List Y15)(a1 a2 a3:Int)(a4:List Y15):s72_1 (T72 F86 F39) (a0,a1,a2,a3,a4)=q72_1 F86 F39 (l72_2 (T72 F86 F39)) a0 a1 a2 a3 a4:=by kernel_rfl
noncomputable def p72_1:=q72_1 P86 P39 L72_2
noncomputable def L72_1:Y700:=whileF (fun x=>p72_1 x.1 x.2.1 x.2.2.1 x.2.2.2.1 x.2.2.2.2)
theorem v72_1:l72_1 (T72 P86 P39) =L72_1:=congrArg whileF (funext fun x=>(g72_1 P86 P39 x.1 x.2.1 x.2.2.1 x.2.2.2.1 x.2.2.2.2).trans (by rw[v72_2] <;> rfl))
noncomputable def s72_0 (T:List FEnt):=dstep (xs:=x52_0) h72_0 (dxc T (sb [1,1,0,1,2,2] c72))
noncomputable def l72_0 (T:List FEnt):=whileF (s72_0 T)
noncomputable def q72_0 (F86:Y97)(F39:Y330)(l72_1:Y700)(a0:List Y15)(a1:Int)(a2:List Y15):Option Y703:=
cond (decide (a1≤99)) (
(l72_1 (a0,a1,(↑a2.length:Int),0,a2)).bind fun y4=>(
chk (fits .i64 (y4.2.1+1)) (
some (Sum.inl (y4.1,(y4.2.1+1),y4.2.2))))) (
some (Sum.inr a2))
theorem g72_0 (F86:Y97)(F39:Y330)(a0:List Y15)(a1:Int)(a2:List Y15):s72_0 (T72 F86 F39) (a0,a1,a2)=q72_0 F86 F39 (l72_1 (T72 F86 F39)) a0 a1 a2:=by kernel_rfl
noncomputable def p72_0:=q72_0 P86 P39 L72_1
noncomputable def L72_0:Y695:=whileF (fun x=>p72_0 x.1 x.2.1 x.2.2)
theorem v72_0:l72_0 (T72 P86 P39) =L72_0:=congrArg whileF (funext fun x=>(g72_0 P86 P39 x.1 x.2.1 x.2.2).trans (by rw[v72_1] <;> rfl))
theorem ok72:L.Fn Tryz.prog 72 58 [(.t 2)] (erase c72):=Fn.ofA hmix Tryz.func72 _ _ (by kernel_rfl)
def sh72:FSh:=⟨⟨[(.v y78)],[]⟩,[y78],0,⟨⟨[(.slc 0)],[(0,(.row 59 y68))]⟩,[y78],[],1⟩,false⟩
noncomputable def q72 (F86:Y97)(F39:Y330)(l72_0:Y695)(a0:List Y15):Option Y28:=
(l72_0 (a0,0,([]:List Y15))).bind fun y5=>(
some y5)
theorem g72 (F86:Y97)(F39:Y330)(a0:List Y15):dxf (T72 F86 F39) sh72 [(.t 2)] c72 a0=q72 F86 F39 (l72_0 (T72 F86 F39)) a0:=by kernel_rfl
noncomputable def p72:=q72 P86 P39 L72_0
noncomputable def P72:Y172:=fun x=>p72 x
theorem v72:dxf (T72 P86 P39) sh72 [(.t 2)] c72=P72:=funext fun x=>(g72 P86 P39 x).trans (by rw[v72_0] <;> rfl)
theorem d72:DC Tryz.prog 72 sh72 P72:=DC_eq v72 (dxf_sound t72 ok72 (by kernel_rfl))
end Go.Proofs.YtdacabdocbhkdaaGreat.D
