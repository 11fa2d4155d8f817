/- Walks through functions, by program out of the session's annotations. -/
import Derived.Test.YtmajgcalliojlaaA25
namespace Go.Proofs.Ytmajgcalliojlaa.E
open Go Go.RowKit Go.Proofs
set_option linter.unusedVariables false
set_option linter.unusedSimpArgs false

theorem pb_of {R : List Res} {i off : Nat} {cs : List AC} (h : R[i]? = some (.box cs)) : ptrOk R (.c (.bp i off)) = true := by simp [ptrOk, h]
theorem any_mem (l : List Int) (x : Int) : l.any (fun y => decide (y = x)) = decide (x ∈ l) := by
  rw [Bool.eq_iff_iff, List.any_eq_true, decide_eq_true_eq]
  exact ⟨fun ⟨y, hy, e⟩ => by have : y = x := by simpa using e
                              exact this ▸ hy, fun h => ⟨x, h, by simp⟩⟩

end Go.Proofs.Ytmajgcalliojlaa.E
