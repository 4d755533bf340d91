import Derived.Test.YtdkaijofmigmbaaG3w
import Derived.Test.YtdkaijofmigmbaaProg
set_option linter.unusedVariables false
set_option maxRecDepth 100000
namespace Go.Proofs.Ytdkaijofmigmbaa.D
open Go Go.Proofs Go.Proofs.Ytdkaijofmigmbaa.L
def k4:List (Nat×OSh):=[(0,(.box [(.v y19),(.v y7),(.slr 2),(.mp 3),(.slc 4)])),(1,(.boxT fq)),(2,(.rows 22 3 y7)),(3,(.pmap 5)),(4,(.row 3 y7)),(5,(.pool cZ))]
noncomputable def Co (F43:oc)(F46:wd):List FEnt:=[⟨43,Cn,F43⟩,⟨46,sh46,F46⟩]
theorem t112:ak Try.prog (Co nZ qL):=dK (dK ai d46) d43
def F4:LSh:=⟨[0,1,9,58,59],⟨[(.ptr 0 0),(.v y7),(.ptr 1 0),(.v y7),(.v y7)],k4⟩,[y7,y7,y7,y19,y7,fq,cG,y19,n5],6,[0,1,2,3,4,5]⟩
def F5:List XSh:=[⟨(.exit 0),[],⟨⟨[],k4⟩,[y19,y7,fq,cG,y19,n5],[0,1,2,3,4,5],6⟩⟩]
noncomputable def JZ:=bK Try.prog [(5,{ch:=[0,0,0,0,1,0,1,0,0,0,0,0,0,0,0,0,0,0,0],rs:=[9] })] Try.f112 (.s .n (.s .n (.s .n (.s .n (.s .n (.s .n (.s .n (.b (.l F4 F5 .n)))))))))
noncomputable def F6 (T:List FEnt):=aB (xs:=F5) F4 (bc T (sb [1,1,1,1,1,1,1,2,2] JZ))
noncomputable def l112_0 (T:List FEnt):=aa (F6 T)
noncomputable def nc (F43:oc)(F46:wd)(a0 a1 a2:Int)(a3:List Int)(a4:Int)(a5:Y4)(a6:List Y2)(a7:List Int)(a8:List Y3):Option ((Int×Int×Int×Y2×Int×Y4×Y9×Y2×iT)⊕Y186):=
cond (decide (a2 < a1)) (
ah (aA a5.2.1 a6.length) (
ah (af .i64 (a5.2.2.1+a2)) (
ah (aA (a5.2.2.1+a2) (List.length (ix a6 a5.2.1))) (
ah (af .i64 (a2+1)) (
some (Sum.inl (a0,a1,(a2+1),a3,a4,a5,(List.set a6 a5.2.1.toNat (List.set (ix a6 a5.2.1) (Int.toNat (a5.2.2.1+a2)) a0)),a7,a8))))))) (
some (Sum.inr (a3,a4,a5,a6,a7,a8)))
theorem Tp (F43:oc)(F46:wd):F6 (Co F43 F46)=u9 (nc F43 F46):=funext fun _=>by kernel_rfl
noncomputable def F7:=nc nZ qL
noncomputable def nf:Y189:=aa (u9 F7)
theorem Tq:l112_0 (Co nZ qL)=nf:=congrArg aa (Tp nZ qL)
theorem XH:L.Fn Try.prog 112 77 [] (erase JZ):=oA Try.func112
def At:FSh:=⟨⟨[(.ptr 0 0),(.v y7),(.v y7),(.v y7)],k9⟩,[y7,y7,y7,y19,y7,cG,y19,n5],5,⟨⟨pR,k9⟩,XE,[0,1,2,3],5⟩,false⟩
noncomputable def vJ (F43:oc)(F46:wd)(l112_0:Y189)(a0 a1 a2:Int)(a3:List Int)(a4:Int)(a5:List Y2)(a6:List Int)(a7:List Y3):Option wc:=
(F43 (a0,a3,a4,a5,a6,a7)).bind fun r1=>(
cond (!decide ((pd r1.2.2.2.2.2 r1.1).1=0)) (
some (r1.2.1,r1.2.2.1,r1.2.2.2.1,r1.2.2.2.2.1,r1.2.2.2.2.2)) (
(F46 (a1,r1.2.1,r1.2.2.1,r1.2.2.2.1,r1.2.2.2.2.1,r1.2.2.2.2.2)).bind fun r2=>(
cond (!r2.2.1) (
some (r2.2.2.1,r2.2.2.2.1,r2.2.2.2.2.1,r2.2.2.2.2.2.1,(Hl (Hk (yE r2.2.2.2.2.2.2 r1.1 1) r1.1 a1) r1.1 a2))) (
(l112_0 (a0,a1,0,r2.2.2.1,r2.2.2.2.1,r2.1,r2.2.2.2.2.1,r2.2.2.2.2.2.1,(Db (Da (yE (Hl (Hk (yE r2.2.2.2.2.2.2 r1.1 1) r1.1 a1) r1.1 a2) r1.1 2) r1.1 r2.1.2.1) r1.1 r2.1.2.2.1))).bind fun y3=>(
some (y3.1,y3.2.1,y3.2.2.2.1,y3.2.2.2.2.1,y3.2.2.2.2.2))))))
theorem g112 (F43:oc)(F46:wd):aK (Co F43 F46) At [] JZ=u8 (vJ F43 F46 (l112_0 (Co F43 F46))):=funext fun _=>by kernel_rfl
noncomputable def p112:=vJ nZ qL nf
noncomputable def qE:K2:=u8 p112
theorem v112:aK (Co nZ qL) At [] JZ=qE:=(g112 nZ qL).trans (by rw[Tq] <;> rfl)
theorem d112:DC Try.prog 112 At qE:=dD v112 t112 XH
end Go.Proofs.Ytdkaijofmigmbaa.D
