/- Walks through functions, by program out of the session's annotations. -/
import Derived.Test.YtlodlnbhjghjoaaGreatA120
import Derived.Test.YtlodlnbhjghjoaaGreatA08
import Derived.Test.YtlodlnbhjghjoaaGreatA52
import Derived.Test.YtlodlnbhjghjoaaGreatF4
namespace Go.Proofs.YtlodlnbhjghjoaaGreat.E
open Go Go.RowKit Go.Proofs
set_option linter.unusedVariables false
set_option linter.unusedSimpArgs false

theorem newCrk_small (xs : List Int) : (newCrk xs).vals.length ≤ xs.length ∧ (newCrk xs).rows.length ≤ xs.length ∧ (newCrk xs).piv.length = 0 := by
 unfold newCrk
 split
 ·refine ⟨Nat.le_refl _, ?_, rfl⟩
  dsimp only
  rw [upto_len]
  exact Nat.le_refl _
 exact⟨Nat.zero_le _,Nat.zero_le _,rfl⟩
theorem crkAtC_small (Y : Crk) (v : Int) : (crkAtC Y v).vals.length = Y.vals.length ∧ (crkAtC Y v).rows.length = Y.rows.length ∧ (crkAtC Y v).piv.length ≤ Y.piv.length + 1 := by
 unfold crkAtC
 split
 ·refine ⟨crackC_vals, ?_, ?_⟩
  ·rw [crackC]
   split
   ·rfl
   simp [withPv,swaped,swps_len]
  rw [crackC_piv]
  split<;>omega
 omega

end Go.Proofs.YtlodlnbhjghjoaaGreat.E
