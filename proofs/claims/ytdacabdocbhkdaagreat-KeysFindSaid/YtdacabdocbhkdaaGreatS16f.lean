/- Cut down from a longer text. -/
import Derived.Test.YtdacabdocbhkdaaGreatS15f
set_option linter.unusedVariables false
set_option linter.unusedSimpArgs false
set_option linter.unusedSectionVars false
namespace Go.Proofs.YtdacabdocbhkdaaGreat.D
open Go Go.Proofs Go.Proofs.YtdacabdocbhkdaaGreat.L
theorem P44_eq {l:LT}{c:CT}{s:VT}{sums:List AT}{ks:List KT}{sp:List Sp}(h:Put l c s sums ks sp){n:Int}(hn:0≤n∧n≤100000):∃ b,P44 (some (mkP c s sums ks sp),n)=some b∧(b=true↔canM l c s n):=by
 obtain⟨x,x1,x2⟩:=P46_eq h hn
 exact⟨decide (x.1=0),by simp only[P44,p44,q44,x1,bind_some'],by rw[decide_eq_true_eq]; exact x2.can h.mn.1⟩
end Go.Proofs.YtdacabdocbhkdaaGreat.D
