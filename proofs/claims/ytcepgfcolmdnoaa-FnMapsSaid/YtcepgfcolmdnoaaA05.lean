/- Walks through functions, by program out of the session's annotations. -/
import Derived.Test.YtcepgfcolmdnoaaA01
namespace Go.Proofs.Ytcepgfcolmdnoaa.E
open Go Go.RowKit Go.Proofs
set_option linter.unusedVariables false
set_option linter.unusedSimpArgs false

/-- A column, divided: numbers, rows, pivots. -/
structure Crk where
 vals : List Int
 rows : List Int
 piv : List (Int × Int)
 deriving DecidableEq
def crkC (c : Crk) : List AC := [.ro (ints c.vals), .ro (ints c.rows), .ro (pairs c.piv)]
structure Mp where
 c : Crk
 tail : List Int
 app : Int
 deriving DecidableEq
def mpC (m : Mp) : List AC := [.ro (ints m.c.vals), .ro (ints m.c.rows), .ro (pairs m.c.piv), .ro (ints m.tail), .sc (.int .i64 m.app)]
end Go.Proofs.Ytcepgfcolmdnoaa.E
