/- Walks through functions, by program out of the session's annotations. -/
import Derived.Test.YthnadkagchbhbaaGreatA52
import Derived.Test.YthnadkagchbhbaaGreatA47
namespace Go.Proofs.YthnadkagchbhbaaGreat.E
open Go Go.RowKit Go.Proofs
set_option linter.unusedVariables false
set_option linter.unusedSimpArgs false

def medI (l : List Int) : Int := (sortI l).getD ((l.length - 1) / 2) 0
theorem medI_mem {l : List Int} (h : 0 < l.length) : medI l ∈ l := by
 have hl := sortI_len l
 unfold medI
 rw [getD_at (by omega)]
 exact (sortI_perm l).mem_iff.1 (List.getElem_mem _)
theorem cutV_get {xs : List Int} {a b : Int} {j : Nat} (ha : 0 ≤ a) (hb : b ≤ xs.length) (hj : j < (cutV xs a b).length) : a.toNat + j < xs.length ∧ a + j < b ∧ (cutV xs a b)[j] = xs.getD (a.toNat + j) 0 := by
 have hl : (cutV xs a b).length = min (b.toNat - a.toNat) (xs.length - a.toNat) := by rw [cutV, List.length_take, List.length_drop]
 have h1 : a.toNat + j < xs.length := by omega
 refine ⟨h1, by omega, ?_⟩
 rw [getD_at h1]
 simp [cutV]
theorem cutV_len {xs : List Int} {a b : Int} (ha : 0 ≤ a) (h : a ≤ b) (hb : b ≤ xs.length) : ((cutV xs a b).length : Int) = b - a := by
 rw [cutV, List.length_take, List.length_drop]; omega
end Go.Proofs.YthnadkagchbhbaaGreat.E
