import Derived.Test.YtdkaijofmigmbaaG1p
import Derived.Test.YtdkaijofmigmbaaProg
set_option linter.unusedVariables false
set_option maxRecDepth 100000
namespace Go.Proofs.Ytdkaijofmigmbaa.D
open Go Go.Proofs Go.Proofs.Ytdkaijofmigmbaa.L
noncomputable def LL:List FEnt:=[]
theorem Qj:am Try.prog LL:=aa
noncomputable def LM:=cI Try.prog [] Try.f43 .n
theorem LN:L.Fn Try.prog 43 28 [(.t 4)] (erase LM):=oA Try.func43
def tW:FSh:=⟨⟨FI,k4⟩,z8,5,⟨⟨[(.pel 4)],k4⟩,z8,[0,1,2,3],5⟩,false⟩
noncomputable def NV (a0:Int)(a1:List Int)(a2:Int)(a3:List Y2)(a4:List Int)(a5:List Y3):Option uu:=
cond (Option.isSome (aZ a5 a0)) (
some (a0,a1,a2,a3,a4,a5)) (
au (!Option.isSome (aZ a5 a0)) (
some (a0,a1,a2,a3,a4,(a5++[(a0,(0,((-1),((-1),(0,0)))))]))))
theorem Qk:aQ LL tW [(.t 4)] LM=u6 NV:=funext fun _=>by kernel_rfl
noncomputable def Ql:=NV
noncomputable def pB:kH:=u6 Ql
theorem Qm:aQ LL tW [(.t 4)] LM=pB:=Qk
theorem LO:DC Try.prog 43 tW pB:=dD Qm Qj LN
end Go.Proofs.Ytdkaijofmigmbaa.D
