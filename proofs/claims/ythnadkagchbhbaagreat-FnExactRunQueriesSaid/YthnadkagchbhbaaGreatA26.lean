/- Walks through functions, by program out of the session's annotations. -/
import Derived.Test.YthnadkagchbhbaaGreatA25
namespace Go.Proofs.YthnadkagchbhbaaGreat.E
open Go Go.RowKit Go.Proofs
set_option linter.unusedVariables false
set_option linter.unusedSimpArgs false

theorem pb_of {R : List Res} {i off : Nat} {cs : List AC} (h : R[i]? = some (.box cs)) : ptrOk R (.c (.bp i off)) = true := by simp [ptrOk, h]
end Go.Proofs.YthnadkagchbhbaaGreat.E
