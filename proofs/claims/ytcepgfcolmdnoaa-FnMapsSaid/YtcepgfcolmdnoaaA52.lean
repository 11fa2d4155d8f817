/- Walks through functions, by program out of the session's annotations. -/
import Derived.Test.YtcepgfcolmdnoaaA42
import Derived.Test.YtcepgfcolmdnoaaA03
import Derived.Test.YtcepgfcolmdnoaaA18
namespace Go.Proofs.Ytcepgfcolmdnoaa.E
open Go Go.RowKit Go.Proofs
set_option linter.unusedVariables false
set_option linter.unusedSimpArgs false

theorem crackC_vals {c : Crk} {v : Int} : (crackC c v).1.vals.length = c.vals.length := by
 cases h : isPv c.piv v
 ·rw [crackC, if_neg (by simp [h])]
  exact swps_len _ _
 ·rw [crackC, if_pos h]
theorem crackC_piv {c : Crk} {v : Int} : (crackC c v).1.piv.length = if isPv c.piv v = true then c.piv.length else c.piv.length + 1 := by
 cases h : isPv c.piv v
 ·rw [crackC, if_neg (by simp [h]), if_neg (by simp)]
  exact insPv_len _ _
 ·rw [crackC, if_pos h, if_pos rfl]
theorem lend_cutI {R : List Res} {i e a b tot : Nat} {xs : List Int} (hR : R[i]? = some (.row e 1 (ints xs))) (ht : xs.length = tot) : E.lend R (.c (.sl i (0 + a) (b - a) tot)) = .c (.ro (ints (cutV xs a b))) := by
 simp [E.lend, lendC, hR, ints_len, ht, cutV, ints_take, ints_drop]
end Go.Proofs.Ytcepgfcolmdnoaa.E
