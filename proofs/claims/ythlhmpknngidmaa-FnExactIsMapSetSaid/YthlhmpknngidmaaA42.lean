/- Walks through functions, by program out of the session's annotations. -/
import Derived.Test.YthlhmpknngidmaaA40
import Derived.Test.YthlhmpknngidmaaA20
import Derived.Test.YthlhmpknngidmaaF3
namespace Go.Proofs.Ythlhmpknngidmaa.E
open Go Go.RowKit Go.Proofs
set_option linter.unusedVariables false
set_option linter.unusedSimpArgs false

theorem crackC_ok {c : Crk} {v : Int} (hc : isCrk c = true) (hv : bnd v = true) : isCrk (crackC c v).1 = true ∧ (crackC c v).2.length ≤ 64 := by
  have hl := crk_lens hc
  have hb := pc_bounds hc v
  cases hp : isPv c.piv v
  · have hcr : crackC c v = (withPv (swaped c (partC c v).1) (v, (partC c v).2), (partC c v).1) := by rw [crackC, if_neg (by simp [hp])]
    obtain ⟨at_, k1, k2, k3, k4, k5, k6, k7⟩ := crack_ok hc hv hp
    rw [hcr]
    exact ⟨k7, by dsimp only; omega⟩
  · have hcr : crackC c v = (c, []) := by rw [crackC, if_pos hp]
    rw [hcr]
    exact ⟨hc, by simp⟩
theorem c_spec_CrackAt_ok (c : Crk) (v : Int) (hc : isCrk c = true) (hv : bnd v = true) : EFn Try.prog 137 [.agg (crkC c), .c (.sc (.int .i64 v))] [] (fun r S => r = .tup [(true, crkO 0 (crackC c v).1), (false, [.sl 3 0 (crackC c v).2.length (crackC c v).2.length]), (false, [.sc (.bool true)])] ∧ S = crkR 3 132 (crackC c v).1 ++ [.row 147 2 (pairs (crackC c v).2)]) := by
  have hl := crk_lens hc
  have h := c_spec_CrackAt c v ⟨by omega, by omega, by omega⟩
  have hk : crkAtK c v = true := by simp [crkAtK, hc, hv]
  have e1 : crkAtC c v = (crackC c v).1 := by simp [crkAtC, hk]
  have e2 : crkAtS c v = (crackC c v).2 := by simp [crkAtS, hk]
  rw [hk, e1, e2] at h
  exact h
end Go.Proofs.Ythlhmpknngidmaa.E
