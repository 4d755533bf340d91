/- Cut down from a longer text. -/
import Derived.Test.YtdacabdocbhkdaaGreatS7m
set_option linter.unusedVariables false
set_option linter.unusedSimpArgs false
namespace Go.Proofs.YtdacabdocbhkdaaGreat.D
open Go Go.Proofs L
def inB (l:List Int)(n:Int):Bool:=l.any fun x=>decide (n=x)
theorem inB_iff {l:List Int}{n:Int}:inB l n=true↔n∈l:=by
 unfold inB
 rw[List.any_eq_true]
 exact⟨fun⟨x,hx,e⟩=>by simp only[decide_eq_true_eq]at e; rw[e]; exact hx,fun h=>⟨n,h,by simp⟩⟩
def opB (ds:List Int)(k:KT):Bool:=ds.all fun d=>inB k.2.2.1 d
end Go.Proofs.YtdacabdocbhkdaaGreat.D
