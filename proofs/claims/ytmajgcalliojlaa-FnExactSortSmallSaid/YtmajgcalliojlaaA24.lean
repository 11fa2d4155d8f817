/- Walks through functions, by program out of the session's annotations. -/
import Derived.Test.YtmajgcalliojlaaA11
import Derived.Test.YtmajgcalliojlaaA20
namespace Go.Proofs.Ytmajgcalliojlaa.E
open Go Go.RowKit Go.Proofs
set_option linter.unusedVariables false
set_option linter.unusedSimpArgs false

structure Pnd where
  ins : List (Int × Int)
  del : List Int
  deriving DecidableEq
def pndC (p : Pnd) : List AC := [.ro (pairs p.ins), .ro (ints p.del)]
def rowIx (xs : List Int) (x : Int) : Int := fIdx (fun y => decide (x = y)) xs
def insIx (l : List (Int × Int)) (x : Int) : Int := rowIx (l.map (·.2)) x
def isItem (x : Int × Int) : Bool := isIn x.1 (-999) 999 && isIn x.2 0 999
theorem map_at {l : List (Int × Int)} {k : Nat} {p : Int × Int} (h : l[k]? = some p) : (l.map (·.2))[k]? = some p.2 := by simp [h]

end Go.Proofs.Ytmajgcalliojlaa.E
