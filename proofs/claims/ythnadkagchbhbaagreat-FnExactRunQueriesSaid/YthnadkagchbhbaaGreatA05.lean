/- Walks through functions, by program out of the session's annotations. -/
import Derived.Test.YthnadkagchbhbaaGreatA01
namespace Go.Proofs.YthnadkagchbhbaaGreat.E
open Go Go.RowKit Go.Proofs
set_option linter.unusedVariables false
set_option linter.unusedSimpArgs false

/-- A column, divided: numbers, rows, pivots. -/
structure Crk where
 vals : List Int
 rows : List Int
 piv : List (Int × Int)
 deriving DecidableEq
def crkC (c : Crk) : List AC := [.ro (ints c.vals), .ro (ints c.rows), .ro (pairs c.piv)]
structure Mp where
 c : Crk
 tail : List Int
 app : Int
 deriving DecidableEq
def szR (left : Int) (n : Nat) : Int := if left - n < 0 then -1 else left - n
theorem szR_rng {l : Int} {n : Nat} (h : -1 ≤ l ∧ l ≤ 1048576) : -1 ≤ szR l n ∧ szR l n ≤ 1048576 := by
 unfold szR
 split <;> constructor <;> omega
theorem szR_le {l : Int} {n : Nat} (h : ¬ szR l n < 0) : (n : Int) ≤ l := by
 unfold szR at h
 split at h <;> omega

end Go.Proofs.YthnadkagchbhbaaGreat.E
