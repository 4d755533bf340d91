/- Cut down from a longer text. -/
import Derived.Test.YtdacabdocbhkdaaGreatS16f
set_option linter.unusedVariables false
set_option linter.unusedSimpArgs false
set_option linter.unusedSectionVars false
namespace Go.Proofs.YtdacabdocbhkdaaGreat.D
open Go Go.Proofs Go.Proofs.YtdacabdocbhkdaaGreat.L
end Go.Proofs.YtdacabdocbhkdaaGreat.D
