/-
  The engine, the plain laws and the walks that the rows need, part 11. Conditions: none.
-/
import Derived.Test.YtahjdbnhgdaejaaDoorM10
import Derived.Lib.AppendStr
set_option linter.unusedVariables false
set_option linter.unusedSimpArgs false
set_option maxHeartbeats 1000000
set_option maxRecDepth 10000
-- AbsV
namespace Go.Abs
open Go Go.Eng
end Go.Abs
