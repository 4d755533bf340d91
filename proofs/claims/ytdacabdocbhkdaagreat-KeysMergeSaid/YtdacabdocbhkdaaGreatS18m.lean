/- Cut down from a longer text. -/
import Derived.Test.YtdacabdocbhkdaaGreatS17m
set_option linter.unusedVariables false
set_option linter.unusedSimpArgs false
namespace Go.Proofs.YtdacabdocbhkdaaGreat.D
open Go Go.Proofs L
theorem AskOk.at {l:LT}{x y n m:Int}{c:CT}{s:VT}(h:AskOk l x y n c s)(hm:0≤m∧m≤9999):AskOk l x y m c s:=⟨h.v,h.c,h.s,hm⟩
end Go.Proofs.YtdacabdocbhkdaaGreat.D
