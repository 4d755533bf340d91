/- Cut down from a longer text. -/
import Derived.Test.YtfknkinmnecoeaaG5q
import Derived.Test.YtfknkinmnecoeaaProg
set_option linter.unusedVariables false
set_option maxRecDepth 100000
namespace Go.Proofs.Ytfknkinmnecoeaa.D
open Go Go.Proofs Go.Proofs.Ytfknkinmnecoeaa.L
end Go.Proofs.Ytfknkinmnecoeaa.D
