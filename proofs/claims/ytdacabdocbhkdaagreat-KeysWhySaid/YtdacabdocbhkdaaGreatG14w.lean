/- Cut down from a longer text. -/
import Derived.Test.YtdacabdocbhkdaaGreatG13w
import Derived.Test.YtdacabdocbhkdaaGreatProg
set_option linter.unusedVariables false
set_option maxRecDepth 100000
namespace Go.Proofs.YtdacabdocbhkdaaGreat.D
open Go Go.Proofs Go.Proofs.YtdacabdocbhkdaaGreat.L
def sh40:FSh:=⟨⟨[(.st y91),(.v y78),(.v y25)],[]⟩,[y91,y78,y25],0,⟨⟨[(.tup [(.agg [(.v y35),(.slc 0),(.slc 1),(.slc 2),(.slc 3)]),(.v y13)])],[(0,(.row 42 y87)),(1,(.row 46 y67)),(2,(.row 59 y68)),(3,(.row 3 y13))]⟩,[y35,y13,y89,y77,y78,y25],[],4⟩,false⟩
end Go.Proofs.YtdacabdocbhkdaaGreat.D
