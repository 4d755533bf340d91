/- Cut down from a longer text. -/
import Derived.Test.YtdacabdocbhkdaaGreatS17f
set_option linter.unusedVariables false
set_option linter.unusedSimpArgs false
set_option linter.unusedSectionVars false
namespace Go.Proofs.YtdacabdocbhkdaaGreat.D
open Go Go.Proofs Go.Proofs.YtdacabdocbhkdaaGreat.L
theorem AskOk.at {l:LT}{x y n m:Int}{c:CT}{s:VT}(h:AskOk l x y n c s)(hm:0≤m∧m≤9999):AskOk l x y m c s:=⟨h.v,h.c,h.s,hm⟩
theorem AskOk.mn {l:LT}{x y n:Int}{c:CT}{s:VT}(h:AskOk l x y n c s):1≤c.2.2.2.2.1∧c.2.2.2.2.1≤400:=(comp_ok ((lib_ok h.lib).comp c h.cm).1).1
end Go.Proofs.YtdacabdocbhkdaaGreat.D
