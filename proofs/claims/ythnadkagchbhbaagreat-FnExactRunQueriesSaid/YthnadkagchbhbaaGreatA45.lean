/- Walks through functions, by program out of the session's annotations. -/
import Derived.Test.YthnadkagchbhbaaGreatA42
import Derived.Test.YthnadkagchbhbaaGreatA44
import Derived.Test.YthnadkagchbhbaaGreatA08
import Derived.Test.YthnadkagchbhbaaGreatF3
namespace Go.Proofs.YthnadkagchbhbaaGreat.E
open Go Go.RowKit Go.Proofs
set_option linter.unusedVariables false
set_option linter.unusedSimpArgs false

theorem upto_get : ∀ {n q : Nat}, q < n → (upto n)[q]? = some (q : Int)
 | n + 1, q, h => by
  unfold upto
  rcases Nat.lt_or_ge q n with h' | h'
  ·rw [List.getElem?_append_left (by rw [upto_len]; exact h')]; exact upto_get h'
  ·have : q = n := by omega
   subst this
   rw [List.getElem?_append_right (by rw [upto_len]; omega), upto_len]; simp
theorem newCrk_ok {xs : List Int} (h : areVals xs = true) : isCrk (newCrk xs) = true := by
 have hv := areVals_parts h
 have hat : ∀ q, q < xs.length → (upto xs.length).getD q 0 = (q : Int) := fun q hq => by
  rw [List.getD_eq_getElem?_getD, upto_get hq]; rfl
 rw [newCrk, if_pos h, crk_iff]
 refine ⟨hv.1, fun q hq => ?_, ?_, fun q hq => ?_, fun q r hq hr e => ?_, fun p hp => ?_, fun i j p q _ hp _ => ?_⟩
 ·dsimp only at *
  rw [getD_at hq]; exact hv.2 _ (List.getElem_mem hq)
 ·exact upto_len _
 ·dsimp only at *
  rw [hat q hq]
  have := hv.1
  omega
 ·dsimp only at *
  rw [hat q hq, hat r hr] at e; omega
 ·simp at hp
 ·simp at hp
end Go.Proofs.YthnadkagchbhbaaGreat.E
