/- Walks through functions, by program out of the session's annotations. -/
import Derived.Test.YtcepgfcolmdnoaaA42
import Derived.Test.YtcepgfcolmdnoaaA03
import Derived.Test.YtcepgfcolmdnoaaF2
namespace Go.Proofs.Ytcepgfcolmdnoaa.E
open Go Go.RowKit Go.Proofs
set_option linter.unusedVariables false
set_option linter.unusedSimpArgs false

theorem crackC_vals {c : Crk} {v : Int} : (crackC c v).1.vals.length = c.vals.length := by
 cases h:isPv c.piv v
 ·rw [crackC, if_neg (by simp [h])]
  exact swps_len _ _
 ·rw [crackC,if_pos h]
theorem crackC_piv {c : Crk} {v : Int} : (crackC c v).1.piv.length = if isPv c.piv v = true then c.piv.length else c.piv.length + 1 := by
 cases h:isPv c.piv v
 ·rw [crackC, if_neg (by simp [h]), if_neg (by simp)]
  exact insPv_len _ _
 ·rw [crackC,if_pos h,if_pos rfl]
end Go.Proofs.Ytcepgfcolmdnoaa.E
