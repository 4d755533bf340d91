/- Cut down from a longer text. -/
import Derived.Test.YtdacabdocbhkdaaGreatG14r
import Derived.Test.YtdacabdocbhkdaaGreatProg
set_option linter.unusedVariables false
set_option maxRecDepth 100000
namespace Go.Proofs.YtdacabdocbhkdaaGreat.D
open Go Go.Proofs Go.Proofs.YtdacabdocbhkdaaGreat.L
noncomputable def T12 (F14:Y479)(F15:Y323)(F25:Y361)(F39:Y330)(F17:Y301)(F40:Y686)(F32:Y476):List FEnt:=[⟨14,sh14,F14⟩,⟨15,sh15,F15⟩,⟨25,sh25,F25⟩,⟨39,sh39,F39⟩,⟨17,sh17,F17⟩,⟨40,sh40,F40⟩,⟨32,sh32,F32⟩]
theorem t12:DTblOK Tryz.prog (T12 P14 P15 P25 P39 P17 P40 P32):=(DTbl_cons' d14 (by kernel_rfl) (DTbl_cons' d15 (by kernel_rfl) (DTbl_cons' d25 (by kernel_rfl) (DTbl_cons' d39 (by kernel_rfl) (DTbl_cons' d17 (by kernel_rfl) (DTbl_cons' d40 (by kernel_rfl) (DTbl_cons' d32 (by kernel_rfl) DTbl_nil)))))))
def h12_0:LSh:=⟨[3,4,5,7,8],⟨[(.ptr 0 0),(.ptr 1 0),(.ptr 2 0),(.ptr 3 0),(.v y13)],[(0,(.boxT y91)),(1,(.boxT y473)),(2,(.boxT y24)),(3,(.box [(.slc 4),(.slc 5),(.slc 6),(.slc 7),.emp])),(4,(.row 64 y24)),(5,(.row 42 y87)),(6,(.row 46 y67)),(7,(.row 59 y68))]⟩,[y13,y91,y473,y24,y35,y89,y77,y78],8,[0,1,2,3,4,5,6]⟩
def x12_0:List XSh:=[⟨(.exit 0),[3,4,5,7],⟨⟨[(.ptr 0 0),(.ptr 1 0),(.ptr 2 0),(.ptr 3 0)],[(0,(.boxT y91)),(1,(.boxT y473)),(2,(.boxT y24)),(3,(.box [(.slc 4),(.slc 5),(.slc 6),(.slc 7),.emp])),(4,(.row 64 y24)),(5,(.row 42 y87)),(6,(.row 46 y67)),(7,(.row 59 y68))]⟩,[y91,y473,y24,y35,y89,y77,y78],[0,1,2,3,4,5,6],8⟩⟩]
def h12_1:LSh:=⟨[3,4,5,7,9],⟨[(.ptr 0 0),(.ptr 1 0),(.ptr 2 0),(.ptr 3 0),(.v y13)],[(0,(.boxT y91)),(1,(.boxT y473)),(2,(.boxT y24)),(3,(.box [(.slc 4),(.slc 5),(.slc 6),(.slc 7),(.slc 8)])),(4,(.row 64 y24)),(5,(.row 42 y87)),(6,(.row 46 y67)),(7,(.row 59 y68)),(8,(.row 3 y13))]⟩,[y13,y91,y473,y24,y35,y89,y77,y78,y25],9,[0,1,2,3,4,5,6,7]⟩
def x12_1:List XSh:=[⟨(.exit 2),[3,4,5,7],⟨⟨[(.ptr 0 0),(.ptr 1 0),(.ptr 2 0),(.ptr 3 0)],[(0,(.boxT y91)),(1,(.boxT y473)),(2,(.boxT y24)),(3,(.box [(.slc 4),(.slc 5),(.slc 6),(.slc 7),(.slc 8)])),(4,(.row 64 y24)),(5,(.row 42 y87)),(6,(.row 46 y67)),(7,(.row 59 y68)),(8,(.row 3 y13))]⟩,[y91,y473,y24,y35,y89,y77,y78,y25],[0,1,2,3,4,5,6,7],9⟩⟩]
noncomputable def c12:DCode:=anF Tryz.prog [(8,{ch:=[0,1,0,0,0,0,0,0,0,0,0,0,0,0,0,1,0,0,1],rs:=[7] })] Tryz.f12 (.s .n (.s .n (.s .n (.s .n (.s (.s .n (.b (.l h12_0 x12_0 (.s .n (.s (.b (.r [.a 15 true y68,.a 16 true y68])) .n))))) (.s (.r [.a 4 true y68]) (.s (.s .n (.b (.l h12_1 x12_1 (.s .n (.s (.b (.r [.a 19 false y13,.a 20 false y13])) .n))))) (.s .n (.s .n (.s .n (.s .n (.s (.r [.f 9 155 [0],.f 9 155 [1],.f 9 155 [2]]) .n))))))))))))
noncomputable def s12_0 (T:List FEnt):Y716:=dstep (xs:=x12_0) h12_0 (dxc T (sb [1,1,1,1,0,1,2,2] c12))
noncomputable def l12_0 (T:List FEnt):Y712:=whileF (s12_0 T)
noncomputable def q12_0 (F14:Y479)(F15:Y323)(F25:Y361)(F39:Y330)(F17:Y301)(F40:Y686)(F32:Y476)(a0:Int)(a1:Y42)(a2:Y274)(a3:Int×Int)(a4:List Y1)(a5:List Y12)(a6:List Y22)(a7:List Y15):Option Y714:=
cond (decide (a0 < (↑a1.2.2.2.1.length:Int))) (
chk (fits .i64 (a0+a3.1)) (
chk (decide ((↑a1.2.2.2.1.length:Int)≠0)) (
chk (inR (Int.tmod (a0+a3.1) (↑a1.2.2.2.1.length:Int)) a1.2.2.2.1.length) (
(F39 (ix a1.2.2.2.1 (Int.tmod (a0+a3.1) (↑a1.2.2.2.1.length:Int)))).bind fun r10=>(
chk (capOk 56 (List.length a7+List.length ([r10]:List Y15))) (
chk (fits .i64 (a0+1)) (
some (Sum.inl ((a0+1),a1,a2,a3,a4,a5,a6,(a7++([r10]:List Y15))))))))))) (
some (Sum.inr (a1,a2,a3,a4,a5,a6,a7)))
theorem g12_0 (F14:Y479)(F15:Y323)(F25:Y361)(F39:Y330)(F17:Y301)(F40:Y686)(F32:Y476)(a0:Int)(a1:Y42)(a2:Y274)(a3:Int×Int)(a4:List Y1)(a5:List Y12)(a6:List Y22)(a7:List Y15):s12_0 (T12 F14 F15 F25 F39 F17 F40 F32) (a0,a1,a2,a3,a4,a5,a6,a7)=q12_0 F14 F15 F25 F39 F17 F40 F32 a0 a1 a2 a3 a4 a5 a6 a7:=by kernel_rfl
noncomputable def p12_0:=q12_0 P14 P15 P25 P39 P17 P40 P32
noncomputable def L12_0:Y712:=whileF (fun x=>p12_0 x.1 x.2.1 x.2.2.1 x.2.2.2.1 x.2.2.2.2.1 x.2.2.2.2.2.1 x.2.2.2.2.2.2.1 x.2.2.2.2.2.2.2)
theorem v12_0:l12_0 (T12 P14 P15 P25 P39 P17 P40 P32) =L12_0:=congrArg whileF (funext fun x=>(g12_0 P14 P15 P25 P39 P17 P40 P32 x.1 x.2.1 x.2.2.1 x.2.2.2.1 x.2.2.2.2.1 x.2.2.2.2.2.1 x.2.2.2.2.2.2.1 x.2.2.2.2.2.2.2))
noncomputable def s12_1 (T:List FEnt):Y717:=dstep (xs:=x12_1) h12_1 (dxc T (sb [1,1,1,1,1,1,0,1,2,2] c12))
noncomputable def l12_1 (T:List FEnt):Y713:=whileF (s12_1 T)
noncomputable def q12_1 (F14:Y479)(F15:Y323)(F25:Y361)(F39:Y330)(F17:Y301)(F40:Y686)(F32:Y476)(a0:Int)(a1:Y42)(a2:Y274)(a3:Int×Int)(a4:List Y1)(a5:List Y12)(a6:List Y22)(a7:List Y15)(a8:List Int):Option Y715:=
cond (decide (a0 < (↑a1.2.2.2.2.length:Int))) (
chk (fits .i64 (a0+a3.1)) (
chk (decide ((↑a1.2.2.2.2.length:Int)≠0)) (
chk (inR (Int.tmod (a0+a3.1) (↑a1.2.2.2.2.length:Int)) a1.2.2.2.2.length) (
chk (inR a0 a1.2.2.2.2.length) (
chk (capOk 8 (List.length a8+List.length ([(ix a1.2.2.2.2 (Int.tmod (a0+a3.1) (↑a1.2.2.2.2.length:Int))),(ix a1.2.2.2.2 a0)]:List Int))) (
chk (fits .i64 (a0+1)) (
some (Sum.inl ((a0+1),a1,a2,a3,a4,a5,a6,a7,(a8++([(ix a1.2.2.2.2 (Int.tmod (a0+a3.1) (↑a1.2.2.2.2.length:Int))),(ix a1.2.2.2.2 a0)]:List Int))))))))))) (
some (Sum.inr (a1,a2,a3,a4,a5,a6,a7,a8)))
theorem g12_1 (F14:Y479)(F15:Y323)(F25:Y361)(F39:Y330)(F17:Y301)(F40:Y686)(F32:Y476)(a0:Int)(a1:Y42)(a2:Y274)(a3:Int×Int)(a4:List Y1)(a5:List Y12)(a6:List Y22)(a7:List Y15)(a8:List Int):s12_1 (T12 F14 F15 F25 F39 F17 F40 F32) (a0,a1,a2,a3,a4,a5,a6,a7,a8)=q12_1 F14 F15 F25 F39 F17 F40 F32 a0 a1 a2 a3 a4 a5 a6 a7 a8:=by kernel_rfl
noncomputable def p12_1:=q12_1 P14 P15 P25 P39 P17 P40 P32
noncomputable def L12_1:Y713:=whileF (fun x=>p12_1 x.1 x.2.1 x.2.2.1 x.2.2.2.1 x.2.2.2.2.1 x.2.2.2.2.2.1 x.2.2.2.2.2.2.1 x.2.2.2.2.2.2.2.1 x.2.2.2.2.2.2.2.2)
theorem v12_1:l12_1 (T12 P14 P15 P25 P39 P17 P40 P32) =L12_1:=congrArg whileF (funext fun x=>(g12_1 P14 P15 P25 P39 P17 P40 P32 x.1 x.2.1 x.2.2.1 x.2.2.2.1 x.2.2.2.2.1 x.2.2.2.2.2.1 x.2.2.2.2.2.2.1 x.2.2.2.2.2.2.2.1 x.2.2.2.2.2.2.2.2))
theorem ok12:L.Fn Tryz.prog 12 207 [(.t 6)] (erase c12):=Fn.ofA hmix Tryz.func12 _ _ (by kernel_rfl)
def sh12:FSh:=⟨⟨[(.st y91),(.st y473),(.st y24)],[]⟩,[y91,y473,y24],0,⟨⟨[(.v .bool)],[]⟩,[.bool],[],0⟩,true⟩
noncomputable def q12 (F14:Y479)(F15:Y323)(F25:Y361)(F39:Y330)(F17:Y301)(F40:Y686)(F32:Y476)(l12_0:Y712)(l12_1:Y713)(a0:Y42)(a1:Y274)(a2:Int×Int):Option Bool:=
(F14 (a0,a1)).bind fun r1=>(
cond (!r1) (
(F15 ()).bind fun r2=>(
some r2)) (
cond (decide (9 < (↑a0.2.2.2.1.length:Int))) (
(F15 ()).bind fun r3=>(
some r3)) (
cond (decide (9 < (↑a0.2.2.2.2.length:Int))) (
(F15 ()).bind fun r4=>(
some r4)) (
cond (decide (a2.1 < 0)) (
(F15 ()).bind fun r5=>(
some r5)) (
cond (decide (100 < a2.1)) (
(F15 ()).bind fun r6=>(
some r6)) (
cond (decide (a2.2 < 0)) (
(F15 ()).bind fun r7=>(
some r7)) (
cond (decide ((↑a0.2.2.2.1.length:Int) < a2.2)) (
(F15 ()).bind fun r8=>(
some r8)) (
(F25 a0).bind fun r9=>(
(l12_0 (0,a0,a1,a2,r9.1,r9.2.1,r9.2.2.1,([]:List Y15))).bind fun y11=>(
chk (capOk 56 (List.length y11.2.2.2.2.2.2+List.length y11.2.2.2.2.2.2)) (
(l12_1 (0,y11.1,y11.2.1,y11.2.2.1,y11.2.2.2.1,y11.2.2.2.2.1,y11.2.2.2.2.2.1,(y11.2.2.2.2.2.2++y11.2.2.2.2.2.2),([]:List Int))).bind fun y12=>(
(F17 (y12.1,y12.2.1.1,y12.2.1.2.1,y12.2.1.2.2)).bind fun r13=>(
(F17 (y12.2.2.2,y12.2.1.1,y12.2.1.2.1,y12.2.1.2.2)).bind fun r14=>(
(F40 (y12.1,([]:List Y15),([]:List Int))).bind fun r15=>(
(F25 y12.1).bind fun r16=>(
chk (decide ((0:Int)≤0)) (
chk (decide (0≤y12.2.2.1.2)) (
chk (decide (y12.2.2.1.2≤(↑y12.1.2.2.2.1.length:Int))) (
chk (decide (0≤y12.2.2.1.2)) (
chk (decide (y12.2.2.1.2≤(↑y12.1.2.2.2.1.length:Int))) (
chk (decide ((↑y12.1.2.2.2.1.length:Int)≤(↑y12.1.2.2.2.1.length:Int))) (
(F40 ((r16.1,(r16.2.1,(r16.2.2.1,((cutL y12.1.2.2.2.1 0 y12.2.2.1.2),([]:List Int))))),(cutL y12.1.2.2.2.1 y12.2.2.1.2 (↑y12.1.2.2.2.1.length:Int)),y12.1.2.2.2.2)).bind fun r17=>(
cond (decide (r13.2.2=0)) (
cond (decide (r14.2.2=0)) (
cond (decide (r15.2.1=0)) (
cond (decide (r17.2.1=0)) (
cond (decide (r13.1=r14.1)) (
cond (decide (r13.2.1=r14.2.1)) (
(F32 ((r15.1,r15.2.2),(r17.1,r17.2.2))).bind fun r18=>(
cond r18 (
(F15 ()).bind fun r19=>(
some r19)) (
some false))) (
some false)) (
some false)) (
some false)) (
some false)) (
some false)) (
some false))))))))))))))))))))))))
theorem g12 (F14:Y479)(F15:Y323)(F25:Y361)(F39:Y330)(F17:Y301)(F40:Y686)(F32:Y476)(a0:Y42)(a1:Y274)(a2:Int×Int):dxf (T12 F14 F15 F25 F39 F17 F40 F32) sh12 [(.t 6)] c12 (a0,a1,a2)=q12 F14 F15 F25 F39 F17 F40 F32 (l12_0 (T12 F14 F15 F25 F39 F17 F40 F32)) (l12_1 (T12 F14 F15 F25 F39 F17 F40 F32)) a0 a1 a2:=by kernel_rfl
noncomputable def p12:=q12 P14 P15 P25 P39 P17 P40 P32 L12_0 L12_1
noncomputable def P12:Y706:=fun x=>p12 x.1 x.2.1 x.2.2
theorem v12:dxf (T12 P14 P15 P25 P39 P17 P40 P32) sh12 [(.t 6)] c12=P12:=funext fun x=>(g12 P14 P15 P25 P39 P17 P40 P32 x.1 x.2.1 x.2.2).trans (by rw[v12_0,v12_1] <;> rfl)
theorem d12:DC Tryz.prog 12 sh12 P12:=DC_eq v12 (dxf_sound t12 ok12 (by kernel_rfl))
end Go.Proofs.YtdacabdocbhkdaaGreat.D
