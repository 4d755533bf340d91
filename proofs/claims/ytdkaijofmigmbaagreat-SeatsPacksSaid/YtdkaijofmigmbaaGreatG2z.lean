import Derived.Test.YtdkaijofmigmbaaGreatG1z
import Derived.Test.YtdkaijofmigmbaaGreatProg
set_option linter.unusedVariables false
set_option maxRecDepth 100000
namespace Go.Proofs.YtdkaijofmigmbaaGreat.D
open Go Go.Proofs Go.Proofs.YtdkaijofmigmbaaGreat.L
def k2:List (Nat×OSh):=[(0,(.box [(.v y19),(.v y7),(.slr 2),(.mp 3),(.slc 4)])),(1,(.boxT ms)),(2,(.rows 22 3 y7)),(3,(.pmap 5)),(4,(.row 3 y7)),(5,(.pool eJ))]
noncomputable def Fg (F27:kR)(F28:pS):List FEnt:=[⟨27,tT,F27⟩,⟨28,sh28,F28⟩]
theorem QP:am Tryz.prog (Fg pO uf):=dK (dK aa OA) Lx
def Bn:LSh:=⟨[0,1,9,58,59],⟨[(.ptr 0 0),(.v y7),(.ptr 1 0),(.v y7),(.v y7)],k2⟩,[y7,y7,y7,y19,y7,ms,y32,y19,y53],6,[0,1,2,3,4,5]⟩
def Bo:List XSh:=[⟨(.exit 0),[],⟨⟨[],k2⟩,[y19,y7,ms,y32,y19,y53],[0,1,2,3,4,5],6⟩⟩]
noncomputable def JL:=cz Tryz.prog [(5,{ch:=[0,0,0,0,1,0,1,0,0,0,0,0,0,0,0,0,0,0,0],rs:=[9] })] Tryz.f82 (.s .n (.s .n (.s .n (.s .n (.s .n (.s .n (.s .n (.b (.l Bn Bo .n)))))))))
noncomputable def Bp (T:List FEnt):=aU (xs:=Bo) Bn (bT T (sb [1,1,1,1,1,1,1,2,2] JL))
noncomputable def l82_0 (T:List FEnt):=af (Bp T)
noncomputable def Bq (F27:kR)(F28:pS)(a0 a1 a2:Int)(a3:List Int)(a4:Int)(a5:Y4)(a6:List Y2)(a7:List Int)(a8:List Y3):Option ((Int×Int×Int×Y2×Int×Y4×Y9×Y2×gi)⊕Is):=
cond (decide (a2 < a1)) (
aq (bv a5.2.1 a6.length) (
aq (au .i64 (a5.2.2.1+a2)) (
aq (bv (a5.2.2.1+a2) (List.length (ix a6 a5.2.1))) (
aq (au .i64 (a2+1)) (
some (Sum.inl (a0,a1,(a2+1),a3,a4,a5,(List.set a6 a5.2.1.toNat (List.set (ix a6 a5.2.1) (Int.toNat (a5.2.2.1+a2)) a0)),a7,a8))))))) (
some (Sum.inr (a3,a4,a5,a6,a7,a8)))
theorem GY (F27:kR)(F28:pS):Bp (Fg F27 F28)=u9 (Bq F27 F28):=funext fun _=>by kernel_rfl
noncomputable def GZ:=Bq pO uf
noncomputable def Br:It:=af (u9 GZ)
theorem G0:l82_0 (Fg pO uf)=Br:=congrArg af (GY pO uf)
theorem Ly:L.Fn Tryz.prog 82 77 [] (erase JL):=oA Tryz.func82
def yl:FSh:=⟨⟨[(.ptr 0 0),(.v y7),(.v y7),(.v y7)],k4⟩,[y7,y7,y7,y19,y7,y32,y19,y53],5,⟨⟨qe,k4⟩,z9,[0,1,2,3],5⟩,false⟩
noncomputable def NH (F27:kR)(F28:pS)(l82_0:It)(a0 a1 a2:Int)(a3:List Int)(a4:Int)(a5:List Y2)(a6:List Int)(a7:List Y3):Option CI:=
(F27 (a0,a3,a4,a5,a6,a7)).bind fun r1=>(
cond (!decide ((pd r1.2.2.2.2.2 r1.1).1=0)) (
some (r1.2.1,r1.2.2.1,r1.2.2.2.1,r1.2.2.2.2.1,r1.2.2.2.2.2)) (
(F28 (a1,r1.2.1,r1.2.2.1,r1.2.2.2.1,r1.2.2.2.2.1,r1.2.2.2.2.2)).bind fun r2=>(
cond (!r2.2.1) (
some (r2.2.2.1,r2.2.2.2.1,r2.2.2.2.2.1,r2.2.2.2.2.2.1,(Oz (Oy (Fy r2.2.2.2.2.2.2 r1.1 1) r1.1 a1) r1.1 a2))) (
(l82_0 (a0,a1,0,r2.2.2.1,r2.2.2.2.1,r2.1,r2.2.2.2.2.1,r2.2.2.2.2.2.1,(MS (MQ (Fy (Oz (Oy (Fy r2.2.2.2.2.2.2 r1.1 1) r1.1 a1) r1.1 a2) r1.1 2) r1.1 r2.1.2.1) r1.1 r2.1.2.2.1))).bind fun y3=>(
some (y3.1,y3.2.1,y3.2.2.2.1,y3.2.2.2.2.1,y3.2.2.2.2.2))))))
theorem QQ (F27:kR)(F28:pS):aO (Fg F27 F28) yl [] JL=u8 (NH F27 F28 (l82_0 (Fg F27 F28))):=funext fun _=>by kernel_rfl
noncomputable def QR:=NH pO uf Br
noncomputable def Fh:yY:=u8 QR
theorem QS:aO (Fg pO uf) yl [] JL=Fh:=(QQ pO uf).trans (by rw[G0] <;> rfl)
theorem QT:DC Tryz.prog 82 yl Fh:=dD QS QP Ly
end Go.Proofs.YtdkaijofmigmbaaGreat.D
