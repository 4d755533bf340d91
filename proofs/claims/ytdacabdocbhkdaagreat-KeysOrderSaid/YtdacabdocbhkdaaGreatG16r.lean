/- Cut down from a longer text. -/
import Derived.Test.YtdacabdocbhkdaaGreatG15r
import Derived.Test.YtdacabdocbhkdaaGreatProg
set_option linter.unusedVariables false
set_option maxRecDepth 100000
namespace Go.Proofs.YtdacabdocbhkdaaGreat.D
open Go Go.Proofs Go.Proofs.YtdacabdocbhkdaaGreat.L
end Go.Proofs.YtdacabdocbhkdaaGreat.D
