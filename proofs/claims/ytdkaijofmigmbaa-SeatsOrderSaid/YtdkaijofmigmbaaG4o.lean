import Derived.Test.YtdkaijofmigmbaaG3o
import Derived.Test.YtdkaijofmigmbaaProg
set_option linter.unusedVariables false
set_option maxRecDepth 100000
namespace Go.Proofs.Ytdkaijofmigmbaa.D
open Go Go.Proofs Go.Proofs.Ytdkaijofmigmbaa.L
def k4:List (Nat×OSh):=[(0,(.box [(.v y19),(.v y7),(.slr 2),(.mp 3),(.slc 4)])),(1,(.boxT eV)),(2,(.rows 22 3 y7)),(3,(.pmap 5)),(4,(.row 3 y7)),(5,(.pool cW))]
noncomputable def By (F43:nA)(F46:uV):List FEnt:=[⟨43,Bx,F43⟩,⟨46,sh46,F46⟩]
theorem t112:al Try.prog (By nu pY):=(aa d43 (by kernel_rfl) (aa d46 (by kernel_rfl) ak))
def E7:LSh:=⟨[0,1,9,58,59],⟨[(.ptr 0 0),(.v y7),(.ptr 1 0),(.v y7),(.v y7)],k4⟩,[y7,y7,y7,y19,y7,eV,cG,y19,n6],6,[0,1,2,3,4,5]⟩
def E8:List XSh:=[⟨(.exit 0),[],⟨⟨[],k4⟩,[y19,y7,eV,cG,y19,n6],[0,1,2,3,4,5],6⟩⟩]
noncomputable def II:=bU Try.prog [(5,{ch:=[0,0,0,0,1,0,1,0,0,0,0,0,0,0,0,0,0,0,0],rs:=[9] })] Try.f112 (.s .n (.s .n (.s .n (.s .n (.s .n (.s .n (.s .n (.b (.l E7 E8 .n)))))))))
noncomputable def E9 (T:List FEnt):=aG (xs:=E8) E7 (bf T (sb [1,1,1,1,1,1,1,2,2] II))
noncomputable def l112_0 (T:List FEnt):=af (E9 T)
noncomputable def mH (F43:nA)(F46:uV)(a0 a1 a2:Int)(a3:List Int)(a4:Int)(a5:Y4)(a6:List Y2)(a7:List Int)(a8:List Y3):Option Za:=
cond (decide (a2 < a1)) (
ai (aC a5.2.1 a6.length) (
ai (ah .i64 (a5.2.2.1+a2)) (
ai (aC (a5.2.2.1+a2) (List.length (ix a6 a5.2.1))) (
ai (ah .i64 (a2+1)) (
some (Sum.inl (a0,a1,(a2+1),a3,a4,a5,(List.set a6 a5.2.1.toNat (List.set (ix a6 a5.2.1) (Int.toNat (a5.2.2.1+a2)) a0)),a7,a8))))))) (
some (Sum.inr (a3,a4,a5,a6,a7,a8)))
theorem Rm (F43:nA)(F46:uV):E9 (By F43 F46)=u9 (mH F43 F46):=funext fun _=>by kernel_rfl
noncomputable def Fa:=mH nu pY
noncomputable def mI:Y7:=af (fun x=>Fa x.1 x.2.1 x.2.2.1 x.2.2.2.1 x.2.2.2.2.1 x.2.2.2.2.2.1 x.2.2.2.2.2.2.1 x.2.2.2.2.2.2.2.1 x.2.2.2.2.2.2.2.2)
theorem Rn:l112_0 (By nu pY)=mI:=congrArg af (Rm nu pY)
theorem VA:L.Fn Try.prog 112 77 [] (erase II):=Fn.ofA aM Try.func112 _ _ (by kernel_rfl)
def zC:FSh:=⟨⟨[(.ptr 0 0),(.v y7),(.v y7),(.v y7)],k9⟩,[y7,y7,y7,y19,y7,cG,y19,n6],5,⟨⟨pc,k9⟩,z12,[0,1,2,3],5⟩,false⟩
noncomputable def uD (F43:nA)(F46:uV)(l112_0:Y7)(a0 a1 a2:Int)(a3:List Int)(a4:Int)(a5:List Y2)(a6:List Int)(a7:List Y3):Option uU:=
(F43 (a0,a3,a4,a5,a6,a7)).bind fun r1=>(
cond (!decide ((pd r1.2.2.2.2.2 r1.1).1=0)) (
some (r1.2.1,r1.2.2.1,r1.2.2.2.1,r1.2.2.2.2.1,r1.2.2.2.2.2)) (
(F46 (a1,r1.2.1,r1.2.2.1,r1.2.2.2.1,r1.2.2.2.2.1,r1.2.2.2.2.2)).bind fun r2=>(
cond (!r2.2.1) (
some (r2.2.2.1,r2.2.2.2.1,r2.2.2.2.2.1,r2.2.2.2.2.2.1,(Gl (Gk (xQ r2.2.2.2.2.2.2 r1.1 1) r1.1 a1) r1.1 a2))) (
(l112_0 (a0,a1,0,r2.2.2.1,r2.2.2.2.1,r2.1,r2.2.2.2.2.1,r2.2.2.2.2.2.1,(Ch (Cg (xQ (Gl (Gk (xQ r2.2.2.2.2.2.2 r1.1 1) r1.1 a1) r1.1 a2) r1.1 2) r1.1 r2.1.2.1) r1.1 r2.1.2.2.1))).bind fun y3=>(
some (y3.1,y3.2.1,y3.2.2.2.1,y3.2.2.2.2.1,y3.2.2.2.2.2))))))
theorem g112 (F43:nA)(F46:uV):aO (By F43 F46) zC [] II=u8 (uD F43 F46 (l112_0 (By F43 F46))):=funext fun _=>by kernel_rfl
noncomputable def p112:=uD nu pY mI
noncomputable def pR:JD:=fun x=>p112 x.1 x.2.1 x.2.2.1 x.2.2.2.1 x.2.2.2.2.1 x.2.2.2.2.2.1 x.2.2.2.2.2.2.1 x.2.2.2.2.2.2.2
theorem v112:aO (By nu pY) zC [] II=pR:=(g112 nu pY).trans (by rw[Rn] <;> rfl)
theorem d112:DC Try.prog 112 zC pR:=aD v112 (aj t112 VA (by kernel_rfl))
end Go.Proofs.Ytdkaijofmigmbaa.D
