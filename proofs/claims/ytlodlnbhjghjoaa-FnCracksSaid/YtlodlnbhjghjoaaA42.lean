/- Walks through functions, by program out of the session's annotations. -/
import Derived.Test.YtlodlnbhjghjoaaA40
import Derived.Test.YtlodlnbhjghjoaaA20
import Derived.Test.YtlodlnbhjghjoaaF3
namespace Go.Proofs.Ytlodlnbhjghjoaa.E
open Go Go.RowKit Go.Proofs
set_option linter.unusedVariables false
set_option linter.unusedSimpArgs false

def isRng (r : Int × Int) : Bool := decide (-1000 ≤ r.1) && decide (r.1 ≤ r.2) && decide (r.2 ≤ 1000)
theorem crackC_ok {c : Crk} {v : Int} (hc : isCrk c = true) (hv : bnd v = true) : isCrk (crackC c v).1 = true ∧ (crackC c v).2.length ≤ 64 := by
  have hl := crk_lens hc
  have hb := pc_bounds hc v
  cases hp : isPv c.piv v
  · have hcr : crackC c v = (withPv (swaped c (partC c v).1) (v, (partC c v).2), (partC c v).1) := by rw [crackC, if_neg (by simp [hp])]
    obtain ⟨at_, k1, k2, k3, k4, k5, k6, k7⟩ := crack_ok hc hv hp
    rw [hcr]
    exact ⟨k7, by dsimp only; omega⟩
  · have hcr : crackC c v = (c, []) := by rw [crackC, if_pos hp]
    rw [hcr]
    exact ⟨hc, by simp⟩
end Go.Proofs.Ytlodlnbhjghjoaa.E
