import Derived.Test.YtfknkinmnecoeaaY0q
import Derived.Test.YtfknkinmnecoeaaGYq
import Derived.Test.YtfknkinmnecoeaaProg
set_option linter.unusedVariables false
set_option maxRecDepth 100000
namespace Go.Proofs.Ytfknkinmnecoeaa.D
open Go Go.Proofs Go.Proofs.Ytfknkinmnecoeaa.L
def Bi:List RSh:=[(.tup [])]
def k2:List (Nat×OSh):=[(0,(.boxT eP)),(1,.raw),(2,(.box [(.slc 3)])),(3,(.row 33 dE))]
set_option linter.unusedSectionVars false
variable [YP]
theorem wN:Try.prog.follows .mixedOrders=true:=by kernel_rfl
theorem oA {f:FuncId}{fn:Func}(hf:Try.prog.funcs[f]?=some fn){cs:List (Nat×RCh)}{n:Nat}{rs:List Res}{H:HT}(h:(Jq Try.prog cs fn).map (fun x=>(x.1,x.2.1))=some (n,rs):=by kernel_rfl)(e:Nat.beq f YB=false:=by rfl):L.Fn Try.prog f n rs (erase (cN Try.prog cs fn H)):=Fn.ofA wN hf cs H h e
noncomputable def Jy (FYa:wV):List FEnt:=[⟨1048576,shYa,FYa⟩]
theorem T8 (FYa:wV)(h:DC Try.prog 1048576 shYa FYa):aq Try.prog (Jy FYa):=(dQ h (by kernel_rfl) ai)
def DW:LSh:=⟨[0,5,6,7],⟨[(.fn 1048576 [(.ptr 0 0),(.ptr 1 0)]),(.v eP),(.v y3),(.v y3)],[(0,.raw),(1,(.box [(.slc 2)])),(2,(.row 33 dE))]⟩,[eP,y3,y3,y3,eP],3,[0,1]⟩
def DX:List XSh:=[⟨.ret,[],⟨⟨[],[(0,.raw),(1,(.box [(.slc 2)])),(2,(.row 33 dE))]⟩,[y3,eP],[0,1],3⟩⟩,⟨(.exit 0),[],⟨⟨[],[(0,.raw),(1,(.box [(.slc 2)])),(2,(.row 33 dE))]⟩,[y3,eP],[0,1],3⟩⟩]
noncomputable def NZ:=cN Try.prog [] Try.f84 (.s .n (.b (.l DW DX .n)))
noncomputable def DY (T:List FEnt):=aI (xs:=DX) DW (bG T (sb [1,2,2] NZ))
noncomputable def l84_0 (T:List FEnt):=af (DY T)
noncomputable def oW (FYa:wV)(a0:List Y7)(a1 a2 a3:Int)(a4:List Y7):Option ((dc×Int×Int×Int×dc)⊕TN):=
cond (decide (a2 < a1)) (
an (aZ a2 a0.length) (
(FYa ((ix a0 a2),a3,a4)).bind fun r1=>(
cond (!r1.1) (
some (Sum.inr (Sum.inl (r1.2.1,r1.2.2)))) (
an (ah .i64 (a2+1)) (
some (Sum.inl (a0,a1,(a2+1),r1.2.1,r1.2.2))))))) (
some (Sum.inr (Sum.inr (a3,a4))))
theorem Kp (FYa:wV):DY (Jy FYa)=u5 (oW FYa):=funext fun _=>by kernel_rfl
noncomputable def DZ (FYa:wV):=oW FYa
noncomputable def uk (FYa:wV):TO:=af (u5 (DZ FYa))
theorem Kq (FYa:wV):l84_0 (Jy FYa)=uk FYa:=congrArg af (Kp FYa)
theorem O9:L.Fn Try.prog 84 16 [] (erase NZ):=oA Try.func84
def wO:FSh:=⟨⟨[(.fn 1048576 [(.ptr 1 0),(.ptr 2 0)]),(.ptr 0 0)],k2⟩,[eP,y3,eP],4,⟨⟨Bi,k2⟩,[eP,y3,eP],[0,1,2],4⟩,false⟩
noncomputable def N0 (FYa:wV)(l84_0:TO)(a0:List Y7)(a1:Int)(a2:List Y7):Option TM:=
(l84_0 (a0,(↑a0.length:Int),0,a1,a2)).bind (fun y2=>Sum.elim (fun y3=>(
some (a0,y3.1,y3.2))) (fun y4=>(
some (a0,y4.1,y4.2))) y2)
theorem T9 (FYa:wV):aX (Jy FYa) wO [] NZ=u3 (N0 FYa (l84_0 (Jy FYa))):=funext fun _=>by kernel_rfl
noncomputable def Ua (FYa:wV):=N0 FYa (uk FYa)
noncomputable def Ea (FYa:wV):dc×Int×dc→Option TM:=fun x=>Ua FYa x.1 x.2.1 x.2.2
theorem Ub (FYa:wV):aX (Jy FYa) wO [] NZ=Ea FYa:=(T9 FYa).trans (by rw[Kq FYa] <;> rfl)
theorem Uc (FYa:wV)(h:DC Try.prog 1048576 shYa FYa):DC Try.prog 84 wO (Ea FYa):=yw (Ub FYa) (iA (T8 FYa h) O9 (by kernel_rfl))
end Go.Proofs.Ytfknkinmnecoeaa.D
