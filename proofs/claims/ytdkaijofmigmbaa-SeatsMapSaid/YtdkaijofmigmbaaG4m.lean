import Derived.Test.YtdkaijofmigmbaaG3m
import Derived.Test.YtdkaijofmigmbaaProg
set_option linter.unusedVariables false
set_option maxRecDepth 100000
namespace Go.Proofs.Ytdkaijofmigmbaa.D
open Go Go.Proofs Go.Proofs.Ytdkaijofmigmbaa.L
def k4:List (Nat×OSh):=[(0,(.box [(.v y19),(.v y7),(.slr 2),(.mp 3),(.slc 4)])),(1,(.boxT eX)),(2,(.rows 22 3 y7)),(3,(.pmap 5)),(4,(.row 3 y7)),(5,(.pool da))]
noncomputable def BQ (F43:nS)(F46:vE):List FEnt:=[⟨43,BP,F43⟩,⟨46,sh46,F46⟩]
theorem t112:aq Try.prog (BQ nN qy):=(af d43 (by kernel_rfl) (af d46 (by kernel_rfl) al))
def Fm:LSh:=⟨[0,1,9,58,59],⟨[(.ptr 0 0),(.v y7),(.ptr 1 0),(.v y7),(.v y7)],k4⟩,[y7,y7,y7,y19,y7,eX,cI,y19,oz],6,[0,1,2,3,4,5]⟩
def Fo:List XSh:=[⟨(.exit 0),[],⟨⟨[],k4⟩,[y19,y7,eX,cI,y19,oz],[0,1,2,3,4,5],6⟩⟩]
noncomputable def I4:=bU Try.prog [(5,{ch:=[0,0,0,0,1,0,1,0,0,0,0,0,0,0,0,0,0,0,0],rs:=[9] })] Try.f112 (.s .n (.s .n (.s .n (.s .n (.s .n (.s .n (.s .n (.b (.l Fm Fo .n)))))))))
noncomputable def Fp (T:List FEnt):=aG (xs:=Fo) Fm (bg T (sb [1,1,1,1,1,1,1,2,2] I4))
noncomputable def l112_0 (T:List FEnt):=ah (Fp T)
noncomputable def mR (F43:nS)(F46:vE)(a0 a1 a2:Int)(a3:List Int)(a4:Int)(a5:Y4)(a6:List Y2)(a7:List Int)(a8:List Y3):Option YV:=
cond (decide (a2 < a1)) (
aj (aC a5.2.1 a6.length) (
aj (ai .i64 (a5.2.2.1+a2)) (
aj (aC (a5.2.2.1+a2) (List.length (ix a6 a5.2.1))) (
aj (ai .i64 (a2+1)) (
some (Sum.inl (a0,a1,(a2+1),a3,a4,a5,(List.set a6 a5.2.1.toNat (List.set (ix a6 a5.2.1) (Int.toNat (a5.2.2.1+a2)) a0)),a7,a8))))))) (
some (Sum.inr (a3,a4,a5,a6,a7,a8)))
theorem Rn (F43:nS)(F46:vE):Fp (BQ F43 F46)=u9 (mR F43 F46):=funext fun _=>by kernel_rfl
noncomputable def Fq:=mR nN qy
noncomputable def mS:YU:=ah (fun x=>Fq x.1 x.2.1 x.2.2.1 x.2.2.2.1 x.2.2.2.2.1 x.2.2.2.2.2.1 x.2.2.2.2.2.2.1 x.2.2.2.2.2.2.2.1 x.2.2.2.2.2.2.2.2)
theorem Ro:l112_0 (BQ nN qy)=mS:=congrArg ah (Rn nN qy)
theorem VD:L.Fn Try.prog 112 77 [] (erase I4):=Fn.ofA aN Try.func112 _ _ (by kernel_rfl)
def zN:FSh:=⟨⟨[(.ptr 0 0),(.v y7),(.v y7),(.v y7)],k9⟩,[y7,y7,y7,y19,y7,cI,y19,oz],5,⟨⟨pG,k9⟩,z12,[0,1,2,3],5⟩,false⟩
noncomputable def vd (F43:nS)(F46:vE)(l112_0:YU)(a0 a1 a2:Int)(a3:List Int)(a4:Int)(a5:List Y2)(a6:List Int)(a7:List Y3):Option vD:=
(F43 (a0,a3,a4,a5,a6,a7)).bind fun r1=>(
cond (!decide ((pd r1.2.2.2.2.2 r1.1).1=0)) (
some (r1.2.1,r1.2.2.1,r1.2.2.2.1,r1.2.2.2.2.1,r1.2.2.2.2.2)) (
(F46 (a1,r1.2.1,r1.2.2.1,r1.2.2.2.1,r1.2.2.2.2.1,r1.2.2.2.2.2)).bind fun r2=>(
cond (!r2.2.1) (
some (r2.2.2.1,r2.2.2.2.1,r2.2.2.2.2.1,r2.2.2.2.2.2.1,(GB (GA (x7 r2.2.2.2.2.2.2 r1.1 1) r1.1 a1) r1.1 a2))) (
(l112_0 (a0,a1,0,r2.2.2.1,r2.2.2.2.1,r2.1,r2.2.2.2.2.1,r2.2.2.2.2.2.1,(Cv (Cu (x7 (GB (GA (x7 r2.2.2.2.2.2.2 r1.1 1) r1.1 a1) r1.1 a2) r1.1 2) r1.1 r2.1.2.1) r1.1 r2.1.2.2.1))).bind fun y3=>(
some (y3.1,y3.2.1,y3.2.2.2.1,y3.2.2.2.2.1,y3.2.2.2.2.2))))))
theorem g112 (F43:nS)(F46:vE):aO (BQ F43 F46) zN [] I4=u8 (vd F43 F46 (l112_0 (BQ F43 F46))):=funext fun _=>by kernel_rfl
noncomputable def p112:=vd nN qy mS
noncomputable def qq:JQ:=fun x=>p112 x.1 x.2.1 x.2.2.1 x.2.2.2.1 x.2.2.2.2.1 x.2.2.2.2.2.1 x.2.2.2.2.2.2.1 x.2.2.2.2.2.2.2
theorem v112:aO (BQ nN qy) zN [] I4=qq:=(g112 nN qy).trans (by rw[Ro] <;> rfl)
theorem d112:DC Try.prog 112 zN qq:=aF v112 (ak t112 VD (by kernel_rfl))
end Go.Proofs.Ytdkaijofmigmbaa.D
