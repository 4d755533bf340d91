/- Cut down from a longer text. -/
import Derived.Test.YtdacabdocbhkdaaGreatG8m
import Derived.Test.YtdacabdocbhkdaaGreatProg
set_option linter.unusedVariables false
set_option maxRecDepth 100000
namespace Go.Proofs.YtdacabdocbhkdaaGreat.D
open Go Go.Proofs L
end Go.Proofs.YtdacabdocbhkdaaGreat.D
