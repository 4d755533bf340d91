/- Cut down from a longer text. -/
import Derived.Test.YtdacabdocbhkdaaGreatG15m
import Derived.Test.YtdacabdocbhkdaaGreatProg
set_option linter.unusedVariables false
set_option maxRecDepth 100000
namespace Go.Proofs.YtdacabdocbhkdaaGreat.D
open Go Go.Proofs L
noncomputable def T41 (F26:Y198)(F25:Y361)(F72:Y172)(F24:Y8)(F49:Y153):List FEnt:=[⟨26,sh26,F26⟩,⟨25,sh25,F25⟩,⟨72,sh72,F72⟩,⟨24,sh24,F24⟩,⟨49,sh49,F49⟩]
theorem t41:DTblOK Tryz.prog (T41 P26 P25 P72 P24 P49):=(DTbl_cons' d26 (by kernel_rfl) (DTbl_cons' d25 (by kernel_rfl) (DTbl_cons' d72 (by kernel_rfl) (DTbl_cons' d24 (by kernel_rfl) (DTbl_cons' d49 (by kernel_rfl) DTbl_nil)))))
def h41_0:LSh:=⟨[2,3,6,9,11],⟨[(.v y25),(.ptr 0 0),(.ptr 1 0),(.ptr 2 0),(.v y13)],[(0,(.boxT y91)),(1,(.box [.emp,.emp,.emp,.emp,.emp])),(2,(.box [(.slc 3),(.slc 4),(.slc 5),(.slc 6),(.slc 7)])),(3,(.row 64 y24)),(4,(.row 42 y87)),(5,(.row 46 y67)),(6,(.row 59 y68)),(7,(.row 3 y13))]⟩,[y25,y13,y91,y35,y89,y77,y78,y25],8,[0,1,2,3,4,5,6]⟩
def x41_0:List XSh:=[⟨(.exit 0),[6,9],⟨⟨[(.ptr 1 0),(.ptr 2 0)],[(0,(.boxT y91)),(1,(.box [.emp,.emp,.emp,.emp,.emp])),(2,(.box [(.slc 3),(.slc 4),(.slc 5),(.slc 6),(.slc 7)])),(3,(.row 64 y24)),(4,(.row 42 y87)),(5,(.row 46 y67)),(6,(.row 59 y68)),(7,(.row 3 y13))]⟩,[y91,y35,y89,y77,y78,y25],[0,1,2,3,4,5,6],8⟩⟩]
noncomputable def c41:=anF Tryz.prog [] Tryz.f41 (.s .n (.s .n (.s .n (.s .n (.s .n (.s (.r [.a 0 true y68,.a 3 true y68,.a 5 true y68,.f 6 35 []]) (.s .n (.s (.s .n (.b (.l h41_0 x41_0 (.s .n (.s (.b (.s .n (.s (.r [.a 3 false y13,.a 4 false y13]) .n))) .n))))) .n))))))))
noncomputable def s41_0 (T:List FEnt):=dstep (xs:=x41_0) h41_0 (dxc T (sb [1,1,1,1,1,1,1,0,1,2,2] c41))
noncomputable def l41_0 (T:List FEnt):=whileF (s41_0 T)
noncomputable def q41_0 (F26:Y198)(F25:Y361)(F72:Y172)(F24:Y8)(F49:Y153)(a0:List Int)(a1:Int)(a2:Y42)(a3:List Y1)(a4:List Y12)(a5:List Y22)(a6:List Y15)(a7:List Int):Option Y722:=
cond (decide (a1≤99)) (
(F24 (a2.2.2.2.2,a1)).bind fun r5=>(
cond r5 (
chk (capOk 8 (List.length a7+List.length ([a1]:List Int))) (
chk (fits .i64 (a1+1)) (
some (Sum.inl (a0,(a1+1),a2,a3,a4,a5,a6,(a7++([a1]:List Int))))))) (
(F24 (a0,a1)).bind fun r6=>(
cond r6 (
chk (capOk 8 (List.length a7+List.length ([a1]:List Int))) (
chk (fits .i64 (a1+1)) (
some (Sum.inl (a0,(a1+1),a2,a3,a4,a5,a6,(a7++([a1]:List Int))))))) (
chk (fits .i64 (a1+1)) (
some (Sum.inl (a0,(a1+1),a2,a3,a4,a5,a6,a7)))))))) (
some (Sum.inr (a2,a3,a4,a5,a6,a7)))
theorem g41_0 (F26:Y198)(F25:Y361)(F72:Y172)(F24:Y8)(F49:Y153)(a0:List Int)(a1:Int)(a2:Y42)(a3:List Y1)(a4:List Y12)(a5:List Y22)(a6:List Y15)(a7:List Int):s41_0 (T41 F26 F25 F72 F24 F49) (a0,a1,a2,a3,a4,a5,a6,a7)=q41_0 F26 F25 F72 F24 F49 a0 a1 a2 a3 a4 a5 a6 a7:=by kernel_rfl
noncomputable def p41_0:=q41_0 P26 P25 P72 P24 P49
noncomputable def L41_0:Y721:=whileF (fun x=>p41_0 x.1 x.2.1 x.2.2.1 x.2.2.2.1 x.2.2.2.2.1 x.2.2.2.2.2.1 x.2.2.2.2.2.2.1 x.2.2.2.2.2.2.2)
theorem v41_0:l41_0 (T41 P26 P25 P72 P24 P49) =L41_0:=congrArg whileF (funext fun x=>(g41_0 P26 P25 P72 P24 P49 x.1 x.2.1 x.2.2.1 x.2.2.2.1 x.2.2.2.2.1 x.2.2.2.2.2.1 x.2.2.2.2.2.2.1 x.2.2.2.2.2.2.2))
theorem ok41:L.Fn Tryz.prog 41 74 [(.cell 6 true 5),(.t 7)] (erase c41):=Fn.ofA hmix Tryz.func41 _ _ (by kernel_rfl)
def sh41:FSh:=⟨⟨[(.st y91),(.v y78),(.v y25)],[]⟩,[y91,y78,y25],0,⟨⟨[(.tup [(.agg [(.slc 0),(.slc 1),(.slc 2),(.slc 3),(.slc 4)]),(.v y13)])],[(0,(.row 64 y24)),(1,(.row 42 y87)),(2,(.row 46 y67)),(3,(.row 59 y68)),(4,(.row 3 y13))]⟩,[y13,y35,y89,y77,y78,y25],[],5⟩,false⟩
noncomputable def q41 (F26:Y198)(F25:Y361)(F72:Y172)(F24:Y8)(F49:Y153)(l41_0:Y721)(a0:Y42)(a1:List Y15)(a2:List Int):Option Y49:=
(F26 a0).bind fun r1=>(
cond (!decide (r1=0)) (
some (r1,([]:List Y1),([]:List Y12),([]:List Y22),([]:List Y15),([]:List Int))) (
(F25 a0).bind fun r2=>(
(F26 (r2.1,(r2.2.1,(r2.2.2.1,(a1,a2))))).bind fun r3=>(
cond (!decide (r3=0)) (
some (r3,([]:List Y1),([]:List Y12),([]:List Y22),([]:List Y15),([]:List Int))) (
chk (capOk 56 (List.length ([]:List Y15)+List.length a0.2.2.2.1)) (
chk (capOk 56 (List.length (([]:List Y15)++a0.2.2.2.1)+List.length a1)) (
(F72 ((([]:List Y15)++a0.2.2.2.1)++a1)).bind fun r4=>(
(l41_0 (a2,0,a0,r2.1,r2.2.1,r2.2.2.1,r4,([]:List Int))).bind fun y7=>(
cond (decide (20 < (↑y7.2.2.2.2.1.length:Int))) (
some (20,([]:List Y1),([]:List Y12),([]:List Y22),([]:List Y15),([]:List Int))) (
cond (decide (20 < (↑y7.2.2.2.2.2.length:Int))) (
some (20,([]:List Y1),([]:List Y12),([]:List Y22),([]:List Y15),([]:List Int))) (
(F49 y7.2.2.2.2.1).bind fun r8=>(
cond r8 (
some (21,([]:List Y1),([]:List Y12),([]:List Y22),([]:List Y15),([]:List Int))) (
some (0,y7.2.1,y7.2.2.1,y7.2.2.2.1,y7.2.2.2.2.1,y7.2.2.2.2.2))))))))))))))
theorem g41 (F26:Y198)(F25:Y361)(F72:Y172)(F24:Y8)(F49:Y153)(a0:Y42)(a1:List Y15)(a2:List Int):dxf (T41 F26 F25 F72 F24 F49) sh41 [(.cell 6 true 5),(.t 7)] c41 (a0,a1,a2)=q41 F26 F25 F72 F24 F49 (l41_0 (T41 F26 F25 F72 F24 F49)) a0 a1 a2:=by kernel_rfl
noncomputable def p41:=q41 P26 P25 P72 P24 P49 L41_0
noncomputable def P41:Y718:=fun x=>p41 x.1 x.2.1 x.2.2
theorem v41:dxf (T41 P26 P25 P72 P24 P49) sh41 [(.cell 6 true 5),(.t 7)] c41=P41:=funext fun x=>(g41 P26 P25 P72 P24 P49 x.1 x.2.1 x.2.2).trans (by rw[v41_0] <;> rfl)
theorem d41:DC Tryz.prog 41 sh41 P41:=DC_eq v41 (dxf_sound t41 ok41 (by kernel_rfl))
noncomputable def T13 (F27:Y44)(F15:Y323)(F25v1:Y361)(F40:Y686)(F41:Y718)(F32:Y476):List FEnt:=[⟨27,sh27,F27⟩,⟨15,sh15,F15⟩,⟨25,sh25v1,F25v1⟩,⟨40,sh40,F40⟩,⟨41,sh41,F41⟩,⟨32,sh32,F32⟩]
theorem t13:DTblOK Tryz.prog (T13 P27 P15 P25v1 P40 P41 P32):=(DTbl_cons' d27 (by kernel_rfl) (DTbl_cons' d15 (by kernel_rfl) (DTbl_cons' d25v1 (by kernel_rfl) (DTbl_cons' d40 (by kernel_rfl) (DTbl_cons' d41 (by kernel_rfl) (DTbl_cons' d32 (by kernel_rfl) DTbl_nil))))))
noncomputable def c13:=anF Tryz.prog [(4,{ch:=[1,0,0,1,0,1,0,0,0,0,0,0,0],rs:=[3,7],ord:=[0,2,3,4,5,1,6,7,8,9,10,11,12] })] Tryz.f13 .n
theorem ok13:L.Fn Tryz.prog 13 53 [(.t 6)] (erase c13):=Fn.ofA hmix Tryz.func13 _ _ (by kernel_rfl)
def sh13:FSh:=⟨⟨[(.st y91),(.v y78),(.v y25)],[]⟩,[y91,y78,y25],0,⟨⟨[(.v .bool)],[]⟩,[.bool],[],0⟩,true⟩
noncomputable def q13 (F27:Y44)(F15:Y323)(F25v1:Y361)(F40:Y686)(F41:Y718)(F32:Y476)(a0:Y42)(a1:List Y15)(a2:List Int):Option Bool:=
(F27 a0).bind fun r1=>(
cond r1 (
(F15 ()).bind fun r2=>(
some r2)) (
(F27 (([]:List Y1),(([]:List Y12),(([]:List Y22),(a1,a2))))).bind fun r3=>(
cond r3 (
(F15 ()).bind fun r4=>(
some r4)) (
(F25v1 (([]:List Y1),(([]:List Y12),(([]:List Y22),(a1,a2))))).bind fun r5=>(
(F25v1 a0).bind fun r6=>(
(F40 (r6,r5.2.2.2.1,r5.2.2.2.2)).bind fun r7=>(
(F41 (a0,a1,a2)).bind fun r8=>(
(F32 ((r7.1,r7.2.2),r8.2)).bind fun r9=>(
cond r9 (
cond (decide (r7.2.1=r8.1)) (
(F15 ()).bind fun r10=>(
some r10)) (
some false)) (
some false))))))))))
theorem g13 (F27:Y44)(F15:Y323)(F25v1:Y361)(F40:Y686)(F41:Y718)(F32:Y476)(a0:Y42)(a1:List Y15)(a2:List Int):dxf (T13 F27 F15 F25v1 F40 F41 F32) sh13 [(.t 6)] c13 (a0,a1,a2)=q13 F27 F15 F25v1 F40 F41 F32 a0 a1 a2:=by kernel_rfl
noncomputable def p13:=q13 P27 P15 P25v1 P40 P41 P32
noncomputable def P13:Y719:=fun x=>p13 x.1 x.2.1 x.2.2
theorem v13:dxf (T13 P27 P15 P25v1 P40 P41 P32) sh13 [(.t 6)] c13=P13:=funext fun x=>(g13 P27 P15 P25v1 P40 P41 P32 x.1 x.2.1 x.2.2)
theorem d13:DC Tryz.prog 13 sh13 P13:=DC_eq v13 (dxf_sound t13 ok13 (by kernel_rfl))
end Go.Proofs.YtdacabdocbhkdaaGreat.D
