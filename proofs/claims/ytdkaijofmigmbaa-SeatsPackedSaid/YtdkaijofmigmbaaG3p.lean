import Derived.Test.YtdkaijofmigmbaaG2p
import Derived.Test.YtdkaijofmigmbaaProg
set_option linter.unusedVariables false
set_option maxRecDepth 100000
namespace Go.Proofs.Ytdkaijofmigmbaa.D
open Go Go.Proofs Go.Proofs.Ytdkaijofmigmbaa.L
def k2:List (Nat×OSh):=[(0,(.box [(.v y19),(.v y7),(.slr 2),(.mp 3),(.slc 4)])),(1,(.boxT mh)),(2,(.rows 22 3 y7)),(3,(.pmap 5)),(4,(.row 3 y7)),(5,(.pool eI))]
noncomputable def tX (F43:kH)(F46:pK):List FEnt:=[⟨43,tW,F43⟩,⟨46,sh46,F46⟩]
theorem LP:am Try.prog (tX pB ue):=dK (dK aa OK) LO
def wF:LSh:=⟨[0,1,9,58,59],⟨[(.ptr 0 0),(.v y7),(.ptr 1 0),(.v y7),(.v y7)],k2⟩,[y7,y7,y7,y19,y7,mh,y32,y19,y53],6,[0,1,2,3,4,5]⟩
def wG:List XSh:=[⟨(.exit 0),[],⟨⟨[],k2⟩,[y19,y7,mh,y32,y19,y53],[0,1,2,3,4,5],6⟩⟩]
noncomputable def y9:=cI Try.prog [(5,{ch:=[0,0,0,0,1,0,1,0,0,0,0,0,0,0,0,0,0,0,0],rs:=[9] })] Try.f112 (.s .n (.s .n (.s .n (.s .n (.s .n (.s .n (.s .n (.b (.l wF wG .n)))))))))
noncomputable def wH (T:List FEnt):=aV (xs:=wG) wF (bR T (sb [1,1,1,1,1,1,1,2,2] y9))
noncomputable def l112_0 (T:List FEnt):=ah (wH T)
noncomputable def wI (F43:kH)(F46:pK)(a0 a1 a2:Int)(a3:List Int)(a4:Int)(a5:Y4)(a6:List Y2)(a7:List Int)(a8:List Y3):Option ((Int×Int×Int×Y2×Int×Y4×Y9×Y2×fV)⊕Iw):=
cond (decide (a2 < a1)) (
au (bF a5.2.1 a6.length) (
au (an .i64 (a5.2.2.1+a2)) (
au (bF (a5.2.2.1+a2) (List.length (ix a6 a5.2.1))) (
au (an .i64 (a2+1)) (
some (Sum.inl (a0,a1,(a2+1),a3,a4,a5,(List.set a6 a5.2.1.toNat (List.set (ix a6 a5.2.1) (Int.toNat (a5.2.2.1+a2)) a0)),a7,a8))))))) (
some (Sum.inr (a3,a4,a5,a6,a7,a8)))
theorem EI (F43:kH)(F46:pK):wH (tX F43 F46)=u9 (wI F43 F46):=funext fun _=>by kernel_rfl
noncomputable def EJ:=wI pB ue
noncomputable def wJ:Ix:=ah (u9 EJ)
theorem EK:l112_0 (tX pB ue)=wJ:=congrArg ah (EI pB ue)
theorem Hg:L.Fn Try.prog 112 77 [] (erase y9):=oA Try.func112
def sg:FSh:=⟨⟨[(.ptr 0 0),(.v y7),(.v y7),(.v y7)],k4⟩,[y7,y7,y7,y19,y7,y32,y19,y53],5,⟨⟨pT,k4⟩,z9,[0,1,2,3],5⟩,false⟩
noncomputable def Hi (F43:kH)(F46:pK)(l112_0:Ix)(a0 a1 a2:Int)(a3:List Int)(a4:Int)(a5:List Y2)(a6:List Int)(a7:List Y3):Option pJ:=
(F43 (a0,a3,a4,a5,a6,a7)).bind fun r1=>(
cond (!decide ((pd r1.2.2.2.2.2 r1.1).1=0)) (
some (r1.2.1,r1.2.2.1,r1.2.2.2.1,r1.2.2.2.2.1,r1.2.2.2.2.2)) (
(F46 (a1,r1.2.1,r1.2.2.1,r1.2.2.2.1,r1.2.2.2.2.1,r1.2.2.2.2.2)).bind fun r2=>(
cond (!r2.2.1) (
some (r2.2.2.1,r2.2.2.2.1,r2.2.2.2.2.1,r2.2.2.2.2.2.1,(OJ (OI (F6 r2.2.2.2.2.2.2 r1.1 1) r1.1 a1) r1.1 a2))) (
(l112_0 (a0,a1,0,r2.2.2.1,r2.2.2.2.1,r2.1,r2.2.2.2.2.1,r2.2.2.2.2.2.1,(Ng (Nf (F6 (OJ (OI (F6 r2.2.2.2.2.2.2 r1.1 1) r1.1 a1) r1.1 a2) r1.1 2) r1.1 r2.1.2.1) r1.1 r2.1.2.2.1))).bind fun y3=>(
some (y3.1,y3.2.1,y3.2.2.2.1,y3.2.2.2.2.1,y3.2.2.2.2.2))))))
theorem LQ (F43:kH)(F46:pK):aQ (tX F43 F46) sg [] y9=u8 (Hi F43 F46 (l112_0 (tX F43 F46))):=funext fun _=>by kernel_rfl
noncomputable def LR:=Hi pB ue wJ
noncomputable def tY:zM:=u8 LR
theorem LS:aQ (tX pB ue) sg [] y9=tY:=(LQ pB ue).trans (by rw[EK] <;> rfl)
theorem LT:DC Try.prog 112 sg tY:=dD LS LP Hg
end Go.Proofs.Ytdkaijofmigmbaa.D
