import Derived.Test.YtdkaijofmigmbaaGreatB3z
import Derived.Test.YtdkaijofmigmbaaGreatProg
set_option linter.unusedVariables false
set_option maxRecDepth 100000
namespace Go.Proofs.YtdkaijofmigmbaaGreat.D
open Go Go.Proofs Go.Proofs.YtdkaijofmigmbaaGreat.L
def shYa:FSh:=⟨⟨[(.st (.pair (.int .i64) (.pair (.int .i64) (.pair (.int .i64) (.pair (.int .i64) (.int .i64)))))),(.fn 1048576 [(.ptr 0 0),(.ptr 1 0)])],[(0,.raw),(1,(.box [(.slc 2)])),(2,(.row 56 (.pair (.int .i64) (.pair (.int .i64) (.pair (.int .i64) (.pair (.int .i64) (.int .i64)))))))]⟩,[(.pair (.int .i64) (.pair (.int .i64) (.pair (.int .i64) (.pair (.int .i64) (.int .i64))))),(.int .i64),(.sl (.pair (.int .i64) (.pair (.int .i64) (.pair (.int .i64) (.pair (.int .i64) (.int .i64))))))],3,⟨⟨[(.v .bool)],[(0,.raw),(1,(.box [(.slc 3)])),(3,(.row 56 (.pair (.int .i64) (.pair (.int .i64) (.pair (.int .i64) (.pair (.int .i64) (.int .i64)))))))]⟩,[.bool,(.int .i64),(.sl (.pair (.int .i64) (.pair (.int .i64) (.pair (.int .i64) (.pair (.int .i64) (.int .i64))))))],[0,1],4⟩,false⟩
def shYb:FSh:=⟨⟨[(.st (.pair (.int .i64) (.pair (.int .i64) (.pair (.int .i64) (.int .i64))))),(.v .bool),(.fn 1048576 [(.ptr 0 0),(.ptr 1 0),(.ptr 2 0)])],[(0,.raw),(1,(.boxT (.pair (.int .i64) (.pair (.int .i64) (.pair (.int .i64) (.int .i64)))))),(2,(.boxT .bool))]⟩,[(.pair (.int .i64) (.pair (.int .i64) (.pair (.int .i64) (.int .i64)))),.bool,(.int .i64),(.pair (.int .i64) (.pair (.int .i64) (.pair (.int .i64) (.int .i64)))),.bool],3,⟨⟨[(.v .bool)],[(0,.raw),(1,(.boxT (.pair (.int .i64) (.pair (.int .i64) (.pair (.int .i64) (.int .i64)))))),(2,(.boxT .bool))]⟩,[.bool,(.int .i64),(.pair (.int .i64) (.pair (.int .i64) (.pair (.int .i64) (.int .i64)))),.bool],[0,1,2],3⟩,false⟩
end Go.Proofs.YtdkaijofmigmbaaGreat.D
