/- Walks through functions, by program out of the session's annotations. -/
import Derived.Test.YthnadkagchbhbaaGreatA42
import Derived.Test.YthnadkagchbhbaaGreatA03
import Derived.Test.YthnadkagchbhbaaGreatA18
namespace Go.Proofs.YthnadkagchbhbaaGreat.E
open Go Go.RowKit Go.Proofs
set_option linter.unusedVariables false
set_option linter.unusedSimpArgs false

theorem isPv_iff {l : List (Int × Int)} {v : Int} : isPv l v = true ↔ ∃ p ∈ l, p.1 = v := by simp [isPv, fpv]
theorem crackC_piv {c : Crk} {v : Int} : (crackC c v).1.piv.length = if isPv c.piv v = true then c.piv.length else c.piv.length + 1 := by
 cases h : isPv c.piv v
 ·rw [crackC, if_neg (by simp [h]), if_neg (by simp)]
  exact insPv_len _ _
 ·rw [crackC, if_pos h, if_pos rfl]
end Go.Proofs.YthnadkagchbhbaaGreat.E
