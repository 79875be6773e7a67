/-
  The tables of the package that the rows list, as values. Conditions: none.
-/
import GoSem.Core.Value
namespace Go.Abs
open Go
def glob : List (Nat × List Value) := []
end Go.Abs
