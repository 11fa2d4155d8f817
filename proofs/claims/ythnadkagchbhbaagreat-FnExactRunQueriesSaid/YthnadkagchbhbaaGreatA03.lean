/- Walks through functions, by program out of the session's annotations. -/
import Derived.Test.YthnadkagchbhbaaGreatA02
namespace Go.Proofs.YthnadkagchbhbaaGreat.E
open Go Go.RowKit Go.Proofs
set_option linter.unusedVariables false
set_option linter.unusedSimpArgs false

theorem areVals_parts {xs : List Int} (h : areVals xs = true) : xs.length ≤ 64 ∧ ∀ x ∈ xs, -999 ≤ x ∧ x ≤ 999 := by
 simpa [areVals] using h
end Go.Proofs.YthnadkagchbhbaaGreat.E
