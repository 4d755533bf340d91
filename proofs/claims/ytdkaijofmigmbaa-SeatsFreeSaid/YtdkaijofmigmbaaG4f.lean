import Derived.Test.YtdkaijofmigmbaaG3f
import Derived.Test.YtdkaijofmigmbaaProg
set_option linter.unusedVariables false
set_option maxRecDepth 100000
namespace Go.Proofs.Ytdkaijofmigmbaa.D
open Go Go.Proofs Go.Proofs.Ytdkaijofmigmbaa.L
def k4:List (Nat×OSh):=[(0,(.box [(.v y19),(.v y7),(.slr 2),(.mp 3),(.slc 4)])),(1,(.boxT fj)),(2,(.rows 22 3 y7)),(3,(.pmap 5)),(4,(.row 3 y7)),(5,(.pool cW))]
noncomputable def Cq (F43:oi)(F46:wl):List FEnt:=[⟨43,Cp,F43⟩,⟨46,sh46,F46⟩]
theorem t112:al Try.prog (Cq n9 qQ):=dK (dK aj d46) d43
def FU:LSh:=⟨[0,1,9,58,59],⟨[(.ptr 0 0),(.v y7),(.ptr 1 0),(.v y7),(.v y7)],k4⟩,[y7,y7,y7,y19,y7,fj,cD,y19,oa],6,[0,1,2,3,4,5]⟩
def FX:List XSh:=[⟨(.exit 0),[],⟨⟨[],k4⟩,[y19,y7,fj,cD,y19,oa],[0,1,2,3,4,5],6⟩⟩]
noncomputable def JR:=bK Try.prog [(5,{ch:=[0,0,0,0,1,0,1,0,0,0,0,0,0,0,0,0,0,0,0],rs:=[9] })] Try.f112 (.s .n (.s .n (.s .n (.s .n (.s .n (.s .n (.s .n (.b (.l FU FX .n)))))))))
noncomputable def FY (T:List FEnt):=aD (xs:=FX) FU (bd T (sb [1,1,1,1,1,1,1,2,2] JR))
noncomputable def l112_0 (T:List FEnt):=af (FY T)
noncomputable def ng (F43:oi)(F46:wl)(a0 a1 a2:Int)(a3:List Int)(a4:Int)(a5:Y4)(a6:List Y2)(a7:List Int)(a8:List Y3):Option ((Int×Int×Int×Y2×Int×Y4×Y9×Y2×iQ)⊕Y186):=
cond (decide (a2 < a1)) (
ai (aA a5.2.1 a6.length) (
ai (ah .i64 (a5.2.2.1+a2)) (
ai (aA (a5.2.2.1+a2) (List.length (ix a6 a5.2.1))) (
ai (ah .i64 (a2+1)) (
some (Sum.inl (a0,a1,(a2+1),a3,a4,a5,(List.set a6 a5.2.1.toNat (List.set (ix a6 a5.2.1) (Int.toNat (a5.2.2.1+a2)) a0)),a7,a8))))))) (
some (Sum.inr (a3,a4,a5,a6,a7,a8)))
theorem S6 (F43:oi)(F46:wl):FY (Cq F43 F46)=u9 (ng F43 F46):=funext fun _=>by kernel_rfl
noncomputable def FZ:=ng n9 qQ
noncomputable def ni:Y189:=af (u9 FZ)
theorem S7:l112_0 (Cq n9 qQ)=ni:=congrArg af (S6 n9 qQ)
theorem Xk:L.Fn Try.prog 112 77 [] (erase JR):=oA Try.func112
def Aw:FSh:=⟨⟨[(.ptr 0 0),(.v y7),(.v y7),(.v y7)],k9⟩,[y7,y7,y7,y19,y7,cD,y19,oa],5,⟨⟨pX,k9⟩,Xh,[0,1,2,3],5⟩,false⟩
noncomputable def vO (F43:oi)(F46:wl)(l112_0:Y189)(a0 a1 a2:Int)(a3:List Int)(a4:Int)(a5:List Y2)(a6:List Int)(a7:List Y3):Option wj:=
(F43 (a0,a3,a4,a5,a6,a7)).bind fun r1=>(
cond (!decide ((pd r1.2.2.2.2.2 r1.1).1=0)) (
some (r1.2.1,r1.2.2.1,r1.2.2.2.1,r1.2.2.2.2.1,r1.2.2.2.2.2)) (
(F46 (a1,r1.2.1,r1.2.2.1,r1.2.2.2.1,r1.2.2.2.2.1,r1.2.2.2.2.2)).bind fun r2=>(
cond (!r2.2.1) (
some (r2.2.2.1,r2.2.2.2.1,r2.2.2.2.2.1,r2.2.2.2.2.2.1,(Hb (Ha (yF r2.2.2.2.2.2.2 r1.1 1) r1.1 a1) r1.1 a2))) (
(l112_0 (a0,a1,0,r2.2.2.1,r2.2.2.2.1,r2.1,r2.2.2.2.2.1,r2.2.2.2.2.2.1,(C3 (C2 (yF (Hb (Ha (yF r2.2.2.2.2.2.2 r1.1 1) r1.1 a1) r1.1 a2) r1.1 2) r1.1 r2.1.2.1) r1.1 r2.1.2.2.1))).bind fun y3=>(
some (y3.1,y3.2.1,y3.2.2.2.1,y3.2.2.2.2.1,y3.2.2.2.2.2))))))
theorem g112 (F43:oi)(F46:wl):aK (Cq F43 F46) Aw [] JR=u8 (vO F43 F46 (l112_0 (Cq F43 F46))):=funext fun _=>by kernel_rfl
noncomputable def p112:=vO n9 qQ ni
noncomputable def qI:KL:=u8 p112
theorem v112:aK (Cq n9 qQ) Aw [] JR=qI:=(g112 n9 qQ).trans (by rw[S7] <;> rfl)
theorem d112:DC Try.prog 112 Aw qI:=dD v112 t112 Xk
end Go.Proofs.Ytdkaijofmigmbaa.D
