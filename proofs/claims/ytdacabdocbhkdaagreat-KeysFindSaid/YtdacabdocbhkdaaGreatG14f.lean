/- Cut down from a longer text. -/
import Derived.Test.YtdacabdocbhkdaaGreatG13f
import Derived.Test.YtdacabdocbhkdaaGreatProg
set_option linter.unusedVariables false
set_option maxRecDepth 100000
namespace Go.Proofs.YtdacabdocbhkdaaGreat.D
open Go Go.Proofs Go.Proofs.YtdacabdocbhkdaaGreat.L
noncomputable def T11 (F27:Y44)(F15:Y323)(F25:Y361)(F37:Y642)(F38:Y642)(F31:Y94):List FEnt:=[⟨27,sh27,F27⟩,⟨15,sh15,F15⟩,⟨25,sh25,F25⟩,⟨37,sh37,F37⟩,⟨38,sh38,F38⟩,⟨31,sh31,F31⟩]
theorem t11:DTblOK Tryz.prog (T11 P27 P15 P25 P37 P38 P31):=(DTbl_cons' d27 (by kernel_rfl) (DTbl_cons' d15 (by kernel_rfl) (DTbl_cons' d25 (by kernel_rfl) (DTbl_cons' d37 (by kernel_rfl) (DTbl_cons' d38 (by kernel_rfl) (DTbl_cons' d31 (by kernel_rfl) DTbl_nil))))))
noncomputable def c11:DCode:=anF Tryz.prog [(3,{ch:=[0,0,1,0,1,0,1,0,0,0,0,0,0],rs:=[4,5],ord:=[0,2,3,4,5,6,1,7,8,9,10,11,12] })] Tryz.f11 .n
theorem ok11:L.Fn Tryz.prog 11 46 [(.t 6)] (erase c11):=Fn.ofA hmix Tryz.func11 _ _ (by kernel_rfl)
def sh11:FSh:=⟨⟨[(.st y91),(.st y87),(.st y473)],[]⟩,[y91,y87,y473],0,⟨⟨[(.v .bool)],[]⟩,[.bool],[],0⟩,true⟩
noncomputable def q11 (F27:Y44)(F15:Y323)(F25:Y361)(F37 F38:Y642)(F31:Y94)(a0:Y42)(a1:Y12)(a2:Y274):Option Bool:=
(F27 a0).bind fun r1=>(
cond r1 (
(F15 ()).bind fun r2=>(
some r2)) (
(F25 a0).bind fun r3=>(
(F37 (r3,a1,a2.2.1,a2.2.2)).bind fun r4=>(
(F38 (a0,a1,a2.2.1,a2.2.2)).bind fun r5=>(
(F31 (r4.2,r5.2)).bind fun r6=>(
cond r6 (
cond (decide (r4.1=r5.1)) (
(F15 ()).bind fun r7=>(
some r7)) (
some false)) (
some false)))))))
theorem g11 (F27:Y44)(F15:Y323)(F25:Y361)(F37 F38:Y642)(F31:Y94)(a0:Y42)(a1:Y12)(a2:Y274):dxf (T11 F27 F15 F25 F37 F38 F31) sh11 [(.t 6)] c11 (a0,a1,a2)=q11 F27 F15 F25 F37 F38 F31 a0 a1 a2:=by kernel_rfl
noncomputable def p11:=q11 P27 P15 P25 P37 P38 P31
noncomputable def P11:Y682:=fun x=>p11 x.1 x.2.1 x.2.2
theorem v11:dxf (T11 P27 P15 P25 P37 P38 P31) sh11 [(.t 6)] c11=P11:=funext fun x=>(g11 P27 P15 P25 P37 P38 P31 x.1 x.2.1 x.2.2)
theorem d11:DC Tryz.prog 11 sh11 P11:=DC_eq v11 (dxf_sound t11 ok11 (by kernel_rfl))
def sh40:FSh:=⟨⟨[(.st y91),(.v y78),(.v y25)],[]⟩,[y91,y78,y25],0,⟨⟨[(.tup [(.agg [(.v y35),(.slc 0),(.slc 1),(.slc 2),(.slc 3)]),(.v y13)])],[(0,(.row 42 y87)),(1,(.row 46 y67)),(2,(.row 59 y68)),(3,(.row 3 y13))]⟩,[y35,y13,y89,y77,y78,y25],[],4⟩,false⟩
end Go.Proofs.YtdacabdocbhkdaaGreat.D
