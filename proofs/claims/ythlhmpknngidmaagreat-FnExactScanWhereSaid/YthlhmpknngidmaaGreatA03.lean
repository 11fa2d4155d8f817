/- Walks through functions, by program out of the session's annotations. -/
import Derived.Test.YthlhmpknngidmaaGreatA02
namespace Go.Proofs.YthlhmpknngidmaaGreat.E
open Go Go.RowKit Go.Proofs
set_option linter.unusedVariables false
set_option linter.unusedSimpArgs false

theorem take_snoc {α : Type} {xs : List α} {k : Nat} {x : α} (hx : xs[k]? = some x) : xs.take (k + 1) = xs.take k ++ [x] := by
 rw [List.take_add_one,hx];rfl
theorem areVals_parts {xs : List Int} (h : areVals xs = true) : xs.length ≤ 64 ∧ ∀ x ∈ xs, -999 ≤ x ∧ x ≤ 999 := by
 simpa [areVals] using h
end Go.Proofs.YthlhmpknngidmaaGreat.E
