/- Walks through functions, by program out of the session's annotations. -/
import Derived.Test.YtjbbjicochipeaaGreatETab
import Derived.Test.YtjbbjicochipeaaGreatF2
namespace Go.Proofs.YtjbbjicochipeaaGreat.E
open Go Go.RowKit Go.Proofs
set_option linter.unusedVariables false
set_option linter.unusedSimpArgs false

/-- A column, divided: numbers, rows, pivots. -/
structure Crk where
 vals:List Int
 rows:List Int
 piv:List (Int × Int)
 deriving DecidableEq
def crkC (c:Crk):List AC:=[.ro (ints c.vals),.ro (ints c.rows),.ro (pairs c.piv)]
structure Mp where
 c:Crk
 tail:List Int
 app:Int
 deriving DecidableEq
end Go.Proofs.YtjbbjicochipeaaGreat.E
