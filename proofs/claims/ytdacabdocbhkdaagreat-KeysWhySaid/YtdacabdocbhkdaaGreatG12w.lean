/- Cut down from a longer text. -/
import Derived.Test.YtdacabdocbhkdaaGreatG11w
import Derived.Test.YtdacabdocbhkdaaGreatProg
set_option linter.unusedVariables false
set_option maxRecDepth 100000
namespace Go.Proofs.YtdacabdocbhkdaaGreat.D
open Go Go.Proofs Go.Proofs.YtdacabdocbhkdaaGreat.L
noncomputable def T7 (F14:Y479)(F15:Y323)(F19:Y396)(F21:Y447)(F25:Y361)(F26:Y198)(F23:Y21):List FEnt:=[⟨14,sh14,F14⟩,⟨15,sh15,F15⟩,⟨19,sh19,F19⟩,⟨21,sh21,F21⟩,⟨25,sh25,F25⟩,⟨26,sh26,F26⟩,⟨23,sh23,F23⟩]
def h7_1:LSh:=⟨[1,5,9,11,12,13,14],⟨[(.v y13),(.ptr 0 0),(.v y35),(.ptr 1 0),(.v y13),(.slc 2),(.v y13)],[(0,(.boxT y473)),(1,(.box [(.slc 3),(.slc 4),(.slc 5),(.slc 6),(.slc 7)])),(2,(.row 3 y13)),(3,(.row 64 y24)),(4,(.row 42 y87)),(5,(.row 46 y67)),(6,(.row 59 y68)),(7,(.row 3 y13))]⟩,[y13,y35,y13,y13,y473,y25,y35,y89,y77,y78,y25],8,[0,1,3,4,5,6,7]⟩
def x7_1:List XSh:=[⟨(.exit 2),[1,5,9,11,12,13],⟨⟨[(.v y13),(.ptr 0 0),(.v y35),(.ptr 1 0),(.v y13),(.slc 8)],[(0,(.boxT y473)),(1,(.box [(.slc 3),(.slc 4),(.slc 5),(.slc 6),(.slc 7)])),(3,(.row 64 y24)),(4,(.row 42 y87)),(5,(.row 46 y67)),(6,(.row 59 y68)),(7,(.row 3 y13)),(8,(.row 3 y13))]⟩,[y13,y35,y13,y473,y35,y89,y77,y78,y25,y25],[0,1,3,4,5,6,7],9⟩⟩]
def h7_0:LSh:=⟨[1,5,9,11,12],⟨[(.v y13),(.ptr 0 0),(.v y35),(.ptr 1 0),(.v y13)],[(0,(.boxT y473)),(1,(.box [(.slc 2),(.slc 3),(.slc 4),(.slc 5),(.slc 6)])),(2,(.row 64 y24)),(3,(.row 42 y87)),(4,(.row 46 y67)),(5,(.row 59 y68)),(6,(.row 3 y13))]⟩,[y13,y35,y13,y473,y35,y89,y77,y78,y25],7,[0,1,2,3,4,5,6]⟩
def x7_0:List XSh:=[⟨(.exit 0),[5,9,11],⟨⟨[(.ptr 0 0),(.v y35),(.ptr 1 0)],[(0,(.boxT y473)),(1,(.box [(.slc 2),(.slc 3),(.slc 4),(.slc 5),(.slc 6)])),(2,(.row 64 y24)),(3,(.row 42 y87)),(4,(.row 46 y67)),(5,(.row 59 y68)),(6,(.row 3 y13))]⟩,[y35,y473,y35,y89,y77,y78,y25],[0,1,2,3,4,5,6],7⟩⟩]
noncomputable def c7:DCode:=anF Tryz.prog [] Tryz.f7 (.s .n (.s .n (.s .n (.s .n (.s .n (.s .n (.s (.s .n (.b (.l h7_0 x7_0 (.s .n (.s (.b (.s .n (.s .n (.s (.s .n (.b (.l h7_1 x7_1 (.s .n (.s (.b (.s .n (.s (.s .n (.s (.r [.a 2 false y13,.a 3 false y13]) .n)) (.r [.a 2 false y13,.a 3 false y13])))) .n))))) (.s (.s .n (.s (.r [.a 2 false y13,.a 3 false y13]) .n)) (.r [.f 6 13 []])))))) .n))))) (.s .n (.s (.r [.f 5 143 [0],.f 5 143 [1],.f 5 143 [2],.f 5 143 [3],.f 5 143 [4]]) .n)))))))))
noncomputable def b7_0:DCode:=sb [1,1,1,1,1,1,0,1,2,2] c7
noncomputable def s7_0 (T:List FEnt):Y597:=dstep (xs:=x7_0) h7_0 (dxc T b7_0)
noncomputable def l7_0 (T:List FEnt):Y587:=whileF (s7_0 T)
def sh7:FSh:=⟨⟨[(.st y91),(.v y13),(.st y473)],[]⟩,[y91,y13,y473],0,⟨⟨[(.v .bool)],[]⟩,[.bool],[],0⟩,true⟩
noncomputable def q7 (F14:Y479)(F15:Y323)(F19:Y396)(F21:Y447)(F25:Y361)(F26:Y198)(F23:Y21)(l7_0:Y587)(a0:Y42)(a1:Int)(a2:Y274):Option Bool:=
(F14 (a0,a2)).bind fun(r1:Bool)=>(
cond (!r1) (
(F15 ()).bind fun(r2:Bool)=>(
some r2)) (
(F19 (a0,a2.1)).bind fun(r3:Y12×Bool)=>(
(F21 (a0,a2.1,a2.2.1)).bind fun(r4:Y14×Int)=>(
cond (!decide (r4.2=(0:Int))) (
some false) (
cond (!r3.1.2.2.2.2.2.1) (
cond (!decide ((↑(List.length r4.1):Int)=(1:Int))) (
some false) (
chk (inR (0:Int) (List.length r4.1)) (
cond (!(decide ((ix r4.1 (0:Int)).1=(0:Int))&&decide ((ix r4.1 (0:Int)).2=(9999:Int)))) (
some false) (
(F25 a0).bind fun(r5:Y42)=>(
(l7_0 (a1,r4.1,(0:Int),a2,r5.1,r5.2.1,r5.2.2.1,r5.2.2.2.1,r5.2.2.2.2)).bind fun(y7:Y583)=>(
(F26 y7.2.2).bind fun(r8:Int)=>(
cond (!decide (r8=(0:Int))) (
(F15 ()).bind fun(r9:Bool)=>(
some r9)) (
(F21 (y7.2.2,y7.2.1.1,y7.2.1.2.1)).bind fun(r10:Y14×Int)=>(
cond (decide (r10.2=(0:Int))) (
(F23 (r10.1,y7.2.1.2.2)).bind fun(r11:Bool)=>(
cond (!r11) (
(F15 ()).bind fun(r12:Bool)=>(
some r12)) (
(F23 (y7.1,y7.2.1.2.2)).bind fun(r13:Bool)=>(
cond r13 (
(F15 ()).bind fun(r14:Bool)=>(
some r14)) (
some false))))) (
some false)))))))))) (
(F25 a0).bind fun(r15:Y42)=>(
(l7_0 (a1,r4.1,(0:Int),a2,r15.1,r15.2.1,r15.2.2.1,r15.2.2.2.1,r15.2.2.2.2)).bind fun(y16:Y583)=>(
(F26 y16.2.2).bind fun(r17:Int)=>(
cond (!decide (r17=(0:Int))) (
(F15 ()).bind fun(r18:Bool)=>(
some r18)) (
(F21 (y16.2.2,y16.2.1.1,y16.2.1.2.1)).bind fun(r19:Y14×Int)=>(
cond (decide (r19.2=(0:Int))) (
(F23 (r19.1,y16.2.1.2.2)).bind fun(r20:Bool)=>(
cond (!r20) (
(F15 ()).bind fun(r21:Bool)=>(
some r21)) (
(F23 (y16.1,y16.2.1.2.2)).bind fun(r22:Bool)=>(
cond r22 (
(F15 ()).bind fun(r23:Bool)=>(
some r23)) (
some false))))) (
some false))))))))))))
theorem g7 (F14:Y479)(F15:Y323)(F19:Y396)(F21:Y447)(F25:Y361)(F26:Y198)(F23:Y21)(a0:Y42)(a1:Int)(a2:Y274):dxf (T7 F14 F15 F19 F21 F25 F26 F23) sh7 [(.t 6)] c7 (a0,a1,a2)=q7 F14 F15 F19 F21 F25 F26 F23 (l7_0 (T7 F14 F15 F19 F21 F25 F26 F23)) a0 a1 a2:=by kernel_rfl
noncomputable def T18 (F25:Y361)(F39:Y330):List FEnt:=[⟨25,sh25,F25⟩,⟨39,sh39,F39⟩]
theorem t18:DTblOK Tryz.prog (T18 P25 P39):=(DTbl_cons' (f:=25) (sh:=sh25) (F:=P25) d25 (by kernel_rfl) (DTbl_cons' (f:=39) (sh:=sh39) (F:=P39) d39 (by kernel_rfl) DTbl_nil))
def h18_0:LSh:=⟨[1,2,4,5,6],⟨[(.v y13),(.ptr 0 0),(.ptr 1 0),(.v y13),(.v y13)],[(0,(.boxT y91)),(1,(.box [(.slc 2),(.slc 3),(.slc 4),(.slc 5),(.slc 6)])),(2,(.row 64 y24)),(3,(.row 42 y87)),(4,(.row 46 y67)),(5,(.row 59 y68)),(6,(.row 3 y13))]⟩,[y13,y13,y13,y91,y35,y89,y77,y78,y25],7,[0,1,2,3,4,6]⟩
def x18_0:List XSh:=[⟨(.exit 0),[4,5],⟨⟨[(.ptr 1 0),(.v y13)],[(0,(.boxT y91)),(1,(.box [(.slc 2),(.slc 3),(.slc 4),(.slc 7),(.slc 6)])),(2,(.row 64 y24)),(3,(.row 42 y87)),(4,(.row 46 y67)),(6,(.row 3 y13)),(7,(.row 59 y68))]⟩,[y13,y91,y35,y89,y77,y25,y78],[0,1,2,3,4,6],8⟩⟩]
noncomputable def c18:DCode:=anF Tryz.prog [(7,{ch:=[0,1,0,0,0,0,0,0,1,0,0,1],rs:=[4] })] Tryz.f18 (.s .n (.s .n (.s .n (.s (.s .n (.b (.l h18_0 x18_0 (.s .n (.s (.b (.s .n (.s (.s (.r [.a 8 true y68,.a 9 true y68]) .n) .n))) .n))))) .n))))
noncomputable def b18_0:DCode:=sb [1,1,1,0,1,2,2] c18
noncomputable def s18_0 (T:List FEnt):Y601:=dstep (xs:=x18_0) h18_0 (dxc T b18_0)
noncomputable def l18_0 (T:List FEnt):Y598:=whileF (s18_0 T)
noncomputable def q18_0 (F25:Y361)(F39:Y330)(a0:Int)(a1:Int)(a2:Int)(a3:Y42)(a4:List Y1)(a5:List Y12)(a6:List Y22)(a7:List Y15)(a8:List Int):Option Y599:=
cond (decide (a2 < (↑(List.length a3.2.2.2.1):Int))) (
chk (fits .u64 a2) (
chk (decide ((0:Int)≤a2)) (
cond (decide ((band .i64 (shrI .i64 a0 a2) (1:Int))=(1:Int))) (
chk (inR a2 (List.length a3.2.2.2.1)) (
(F39 (ix a3.2.2.2.1 a2)).bind fun(r2:Y15)=>(
chk (capOk 56 (List.length a7+List.length ([r2]:List Y15))) (
chk (fits .i64 (a1+(1:Int))) (
chk (fits .i64 (a2+(1:Int))) (
some (Sum.inl (a0,(a1+(1:Int)),(a2+(1:Int)),a3,a4,a5,a6,(a7++([r2]:List Y15)),a8)))))))) (
chk (fits .i64 (a2+(1:Int))) (
some (Sum.inl (a0,a1,(a2+(1:Int)),a3,a4,a5,a6,a7,a8))))))) (
some (Sum.inr (a1,a3,a4,a5,a6,a8,a7)))
theorem g18_0 (F25:Y361)(F39:Y330)(a0:Int)(a1:Int)(a2:Int)(a3:Y42)(a4:List Y1)(a5:List Y12)(a6:List Y22)(a7:List Y15)(a8:List Int):s18_0 (T18 F25 F39) (a0,a1,a2,a3,a4,a5,a6,a7,a8)=q18_0 F25 F39 a0 a1 a2 a3 a4 a5 a6 a7 a8:=by kernel_rfl
noncomputable def p18_0 (a0:Int)(a1:Int)(a2:Int)(a3:Y42)(a4:List Y1)(a5:List Y12)(a6:List Y22)(a7:List Y15)(a8:List Int):Option Y599:=q18_0 P25 P39 a0 a1 a2 a3 a4 a5 a6 a7 a8
noncomputable def L18_0:Y598:=whileF (fun x=>p18_0 x.1 x.2.1 x.2.2.1 x.2.2.2.1 x.2.2.2.2.1 x.2.2.2.2.2.1 x.2.2.2.2.2.2.1 x.2.2.2.2.2.2.2.1 x.2.2.2.2.2.2.2.2)
theorem v18_0:l18_0 (T18 P25 P39) =L18_0:=congrArg whileF (funext fun x=>(g18_0 P25 P39 x.1 x.2.1 x.2.2.1 x.2.2.2.1 x.2.2.2.2.1 x.2.2.2.2.2.1 x.2.2.2.2.2.2.1 x.2.2.2.2.2.2.2.1 x.2.2.2.2.2.2.2.2).trans (show q18_0 P25 P39 x.1 x.2.1 x.2.2.1 x.2.2.2.1 x.2.2.2.2.1 x.2.2.2.2.2.1 x.2.2.2.2.2.2.1 x.2.2.2.2.2.2.2.1 x.2.2.2.2.2.2.2.2=q18_0 P25 P39 x.1 x.2.1 x.2.2.1 x.2.2.2.1 x.2.2.2.2.1 x.2.2.2.2.2.1 x.2.2.2.2.2.2.1 x.2.2.2.2.2.2.2.1 x.2.2.2.2.2.2.2.2 from rfl))
theorem ok18:L.Fn Tryz.prog 18 38 [(.cell 4 true 5),(.t 5)] (erase c18):=Fn.ofA hmix Tryz.func18 _ _ (by kernel_rfl)
def sh18:FSh:=⟨⟨[(.st y91),(.v y13)],[]⟩,[y91,y13],0,⟨⟨[(.tup [(.agg [(.slc 0),(.slc 1),(.slc 2),(.slc 3),(.slc 4)]),(.v y13)])],[(0,(.row 64 y24)),(1,(.row 42 y87)),(2,(.row 46 y67)),(3,(.row 59 y68)),(4,(.row 3 y13))]⟩,[y13,y35,y89,y77,y78,y25],[],5⟩,false⟩
noncomputable def q18 (F25:Y361)(F39:Y330)(l18_0:Y598)(a0:Y42)(a1:Int):Option Y49:=
(F25 a0).bind fun(r1:Y42)=>(
(l18_0 (a1,(0:Int),(0:Int),a0,r1.1,r1.2.1,r1.2.2.1,([]:List Y15),r1.2.2.2.2)).bind fun(y3:Y589)=>(
some (y3.1,y3.2.2.1,y3.2.2.2.1,y3.2.2.2.2.1,y3.2.2.2.2.2.2,y3.2.2.2.2.2.1)))
theorem g18 (F25:Y361)(F39:Y330)(a0:Y42)(a1:Int):dxf (T18 F25 F39) sh18 [(.cell 4 true 5),(.t 5)] c18 (a0,a1)=q18 F25 F39 (l18_0 (T18 F25 F39)) a0 a1:=by kernel_rfl
noncomputable def p18 (a0:Y42)(a1:Int):Option Y49:=q18 P25 P39 L18_0 a0 a1
noncomputable def P18:Y590:=fun x=>p18 x.1 x.2
theorem v18:dxf (T18 P25 P39) sh18 [(.cell 4 true 5),(.t 5)] c18=P18:=funext fun x=>(g18 P25 P39 x.1 x.2).trans (show q18 P25 P39 (l18_0 (T18 P25 P39)) x.1 x.2=q18 P25 P39 L18_0 x.1 x.2 from by rw[v18_0])
theorem d18:DC Tryz.prog 18 sh18 P18:=DC_eq v18 (dxf_sound (sh:=sh18) t18 ok18 (by kernel_rfl))
noncomputable def T3 (F14:Y479)(F15:Y323)(F16:Y356)(F17:Y301)(F18:Y590):List FEnt:=[⟨14,sh14,F14⟩,⟨15,sh15,F15⟩,⟨16,sh16,F16⟩,⟨17,sh17,F17⟩,⟨18,sh18,F18⟩]
theorem t3:DTblOK Tryz.prog (T3 P14 P15 P16 P17 P18):=(DTbl_cons' (f:=14) (sh:=sh14) (F:=P14) d14 (by kernel_rfl) (DTbl_cons' (f:=15) (sh:=sh15) (F:=P15) d15 (by kernel_rfl) (DTbl_cons' (f:=16) (sh:=sh16) (F:=P16) d16 (by kernel_rfl) (DTbl_cons' (f:=17) (sh:=sh17) (F:=P17) d17 (by kernel_rfl) (DTbl_cons' (f:=18) (sh:=sh18) (F:=P18) d18 (by kernel_rfl) DTbl_nil)))))
def h3_0:LSh:=⟨[2,3,5,10,11],⟨[(.ptr 0 0),(.ptr 1 0),(.v y13),(.v .bool),(.v y13)],[(0,(.boxT y91)),(1,(.boxT y473))]⟩,[y13,.bool,y13,y91,y473],2,[0,1]⟩
def x3_0:List XSh:=[⟨.ret,[4],⟨⟨[(.v .bool)],[(0,(.boxT y91)),(1,(.boxT y473))]⟩,[.bool,y91,y473],[0,1],2⟩⟩,⟨(.exit 0),[10],⟨⟨[(.v .bool)],[(0,(.boxT y91)),(1,(.boxT y473))]⟩,[.bool,y91,y473],[0,1],2⟩⟩]
noncomputable def c3:DCode:=anF Tryz.prog [] Tryz.f3 (.s .n (.s .n (.s .n (.s .n (.s .n (.s .n (.s .n (.s (.s .n (.b (.l h3_0 x3_0 .n))) .n))))))))
noncomputable def b3_0:DCode:=sb [1,1,1,1,1,1,1,0,1,2,2] c3
noncomputable def s3_0 (T:List FEnt):Y604:=dstep (xs:=x3_0) h3_0 (dxc T b3_0)
noncomputable def l3_0 (T:List FEnt):Y602:=whileF (s3_0 T)
noncomputable def q3_0 (F14:Y479)(F15:Y323)(F16:Y356)(F17:Y301)(F18:Y590)(a0:Int)(a1:Bool)(a2:Int)(a3:Y42)(a4:Y274):Option Y603:=
chk (fits .u64 (↑(List.length a3.2.2.2.1):Int)) (
chk (decide ((0:Int)≤(↑(List.length a3.2.2.2.1):Int))) (
cond (decide (a2 < (shlI .i64 (1:Int) (↑(List.length a3.2.2.2.1):Int)))) (
(F18 (a3,a2)).bind fun(r7:Y49)=>(
(F17 (r7.2,a4.1,a4.2.1,a4.2.2)).bind fun(r8:Y274)=>(
cond (!decide (r8.2.2=(0:Int))) (
some (Sum.inr (Sum.inl (false,a3,a4)))) (
cond (decide (r8.1=(0:Int))) (
cond (decide (r7.1 < a0)) (
some (Sum.inr (Sum.inl (false,a3,a4)))) (
cond a1 (
chk (fits .i64 (a2+(1:Int))) (
some (Sum.inl (a0,true,(a2+(1:Int)),a3,a4)))) (
cond (decide (r8.1=(0:Int))) (
chk (fits .i64 (a2+(1:Int))) (
some (Sum.inl (a0,decide (r7.1=a0),(a2+(1:Int)),a3,a4)))) (
chk (fits .i64 (a2+(1:Int))) (
some (Sum.inl (a0,false,(a2+(1:Int)),a3,a4))))))) (
cond a1 (
chk (fits .i64 (a2+(1:Int))) (
some (Sum.inl (a0,true,(a2+(1:Int)),a3,a4)))) (
cond (decide (r8.1=(0:Int))) (
chk (fits .i64 (a2+(1:Int))) (
some (Sum.inl (a0,decide (r7.1=a0),(a2+(1:Int)),a3,a4)))) (
chk (fits .i64 (a2+(1:Int))) (
some (Sum.inl (a0,false,(a2+(1:Int)),a3,a4)))))))))) (
some (Sum.inr (Sum.inr (a1,a3,a4))))))
theorem g3_0 (F14:Y479)(F15:Y323)(F16:Y356)(F17:Y301)(F18:Y590)(a0:Int)(a1:Bool)(a2:Int)(a3:Y42)(a4:Y274):s3_0 (T3 F14 F15 F16 F17 F18) (a0,a1,a2,a3,a4)=q3_0 F14 F15 F16 F17 F18 a0 a1 a2 a3 a4:=by kernel_rfl
noncomputable def p3_0 (a0:Int)(a1:Bool)(a2:Int)(a3:Y42)(a4:Y274):Option Y603:=q3_0 P14 P15 P16 P17 P18 a0 a1 a2 a3 a4
noncomputable def L3_0:Y602:=whileF (fun x=>p3_0 x.1 x.2.1 x.2.2.1 x.2.2.2.1 x.2.2.2.2)
theorem v3_0:l3_0 (T3 P14 P15 P16 P17 P18) =L3_0:=congrArg whileF (funext fun x=>(g3_0 P14 P15 P16 P17 P18 x.1 x.2.1 x.2.2.1 x.2.2.2.1 x.2.2.2.2).trans (show q3_0 P14 P15 P16 P17 P18 x.1 x.2.1 x.2.2.1 x.2.2.2.1 x.2.2.2.2=q3_0 P14 P15 P16 P17 P18 x.1 x.2.1 x.2.2.1 x.2.2.2.1 x.2.2.2.2 from rfl))
theorem ok3:L.Fn Tryz.prog 3 123 [(.t 4)] (erase c3):=Fn.ofA hmix Tryz.func3 _ _ (by kernel_rfl)
def sh3:FSh:=⟨⟨[(.st y91),(.st y473)],[]⟩,[y91,y473],0,⟨⟨[(.v .bool)],[]⟩,[.bool],[],0⟩,true⟩
noncomputable def q3 (F14:Y479)(F15:Y323)(F16:Y356)(F17:Y301)(F18:Y590)(l3_0:Y602)(a0:Y42)(a1:Y274):Option Bool:=
(F14 (a0,a1)).bind fun(r1:Bool)=>(
cond (!r1) (
(F15 ()).bind fun(r2:Bool)=>(
some r2)) (
cond (decide ((5:Int) < (↑(List.length a0.2.2.2.1):Int))) (
(F15 ()).bind fun(r3:Bool)=>(
some r3)) (
(F16 (a0,a1.1,a1.2.1,a1.2.2)).bind fun(r4:Int×Int)=>(
(F17 (a0,a1.1,a1.2.1,a1.2.2)).bind fun(r5:Y274)=>(
cond (!decide (r5.2.2=(0:Int))) (
some false) (
cond ((decide (r4.2=(0:Int)))!=(decide (r5.1=(0:Int)))) (
some false) (
cond (!decide (r4.2=(0:Int))) (
cond (!decide (r4.2=(3:Int))) (
some false) (
cond (!decide (r4.2=(0:Int))) (
(F15 ()).bind fun(r6:Bool)=>(
some r6)) (
(l3_0 (r4.1,false,(0:Int),a0,a1)).bind (fun(y9:Y591⊕Y591)=>Sum.elim (fun(y10:Y591)=>(
some y10.1)) (fun(y11:Y591)=>(
cond y11.1 (
(F15 ()).bind fun(r12:Bool)=>(
some r12)) (
some false))) y9)))) (
cond (!decide (r4.2=(0:Int))) (
(F15 ()).bind fun(r13:Bool)=>(
some r13)) (
(l3_0 (r4.1,false,(0:Int),a0,a1)).bind (fun(y14:Y591⊕Y591)=>Sum.elim (fun(y15:Y591)=>(
some y15.1)) (fun(y16:Y591)=>(
cond y16.1 (
(F15 ()).bind fun(r17:Bool)=>(
some r17)) (
some false))) y14))))))))))
theorem g3 (F14:Y479)(F15:Y323)(F16:Y356)(F17:Y301)(F18:Y590)(a0:Y42)(a1:Y274):dxf (T3 F14 F15 F16 F17 F18) sh3 [(.t 4)] c3 (a0,a1)=q3 F14 F15 F16 F17 F18 (l3_0 (T3 F14 F15 F16 F17 F18)) a0 a1:=by kernel_rfl
noncomputable def p3 (a0:Y42)(a1:Y274):Option Bool:=q3 P14 P15 P16 P17 P18 L3_0 a0 a1
noncomputable def P3:Y479:=fun x=>p3 x.1 x.2
theorem v3:dxf (T3 P14 P15 P16 P17 P18) sh3 [(.t 4)] c3=P3:=funext fun x=>(g3 P14 P15 P16 P17 P18 x.1 x.2).trans (show q3 P14 P15 P16 P17 P18 (l3_0 (T3 P14 P15 P16 P17 P18)) x.1 x.2=q3 P14 P15 P16 P17 P18 L3_0 x.1 x.2 from by rw[v3_0])
theorem d3:DC Tryz.prog 3 sh3 P3:=DC_eq v3 (dxf_sound (sh:=sh3) t3 ok3 (by kernel_rfl))
end Go.Proofs.YtdacabdocbhkdaaGreat.D
