/- Walks through functions, by program out of the session's annotations. -/
import Derived.Test.YthnadkagchbhbaaGreatA11
import Derived.Test.YthnadkagchbhbaaGreatF3
namespace Go.Proofs.YthnadkagchbhbaaGreat.E
open Go Go.RowKit Go.Proofs
set_option linter.unusedVariables false
set_option linter.unusedSimpArgs false

def cutIx (l : List (Int × Int)) (v : Int) : Nat := l.findIdx fun p => decide (v < p.1)
def aOf (l : List (Int × Int)) (k : Nat) : Int := if k = 0 then 0 else (l.getD (k - 1) (0, 0)).2
def zOf (l : List (Int × Int)) (n : Int) (k : Nat) : Int := if k < l.length then (l.getD k (0, 0)).2 else n
theorem cutIx_le (l : List (Int × Int)) (v : Int) : cutIx l v ≤ l.length := List.findIdx_le_length
theorem cutIx_at {l : List (Int × Int)} {v : Int} {k : Nat} {p : Int × Int} (h : ∀ q ∈ l.take k, ¬ v < q.1) (hp : l[k]? = some p) (hv : v < p.1) : cutIx l v = k := by
 have hk : k < l.length := by
  rcases Nat.lt_or_ge k l.length with h' | h'
  ·exact h'
  ·rw [List.getElem?_eq_none h'] at hp; cases hp
 unfold cutIx
 rw [List.findIdx_eq hk]
 refine ⟨by rw [List.getElem?_eq_getElem hk] at hp; rw [Option.some.inj hp]; simpa using hv, fun j hj => ?_⟩
 have := h l[j] (List.mem_of_getElem? (i := j) (by rw [List.getElem?_take, if_pos hj]; exact List.getElem?_eq_getElem (by omega)))
 simpa using this
theorem cutIx_none {l : List (Int × Int)} {v : Int} (h : ∀ q ∈ l, ¬ v < q.1) : cutIx l v = l.length := by
 unfold cutIx
 rw [List.findIdx_eq_length]
 intro q hq
 simpa using h q hq
theorem aOf_step {l : List (Int × Int)} {k : Nat} {p : Int × Int} (hp : l[k]? = some p) : aOf l (k + 1) = p.2 := by
 rw [aOf, if_neg (by omega), Nat.add_sub_cancel, getD_of hp]
theorem zOf_at {l : List (Int × Int)} {n : Int} {k : Nat} {p : Int × Int} (hp : l[k]? = some p) : zOf l n k = p.2 := by
 have hk : k < l.length := by
  rcases Nat.lt_or_ge k l.length with h' | h'
  ·exact h'
  ·rw [List.getElem?_eq_none h'] at hp; cases hp
 rw [zOf, if_pos hk, getD_of hp]
theorem zOf_end (l : List (Int × Int)) (n : Int) : zOf l n l.length = n := by simp [zOf]
/-- Pivots as a column has them: what follows of it. -/
theorem piv_parts {c : Crk} (h : isCrk c = true) {k : Nat} {p : Int × Int} (hp : c.piv[k]? = some p) : 0 ≤ p.2 ∧ p.2 ≤ c.vals.length ∧ ∀ q, 0 < k → c.piv[k - 1]? = some q → q.1 < p.1 ∧ q.2 ≤ p.2 := by
 have hk : k < c.piv.length := by
  rcases Nat.lt_or_ge k c.piv.length with h' | h'
  ·exact h'
  ·rw [List.getElem?_eq_none h'] at hp; cases hp
 simp only [isCrk, Bool.and_eq_true] at h
 have h1 := allK_at h.2 hk
 rw [pivP, getD_of hp] at h1
 simp only [pivQ, isIn, Bool.and_eq_true, Bool.or_eq_true, decide_eq_true_eq] at h1
 refine ⟨by omega, by omega, fun q h0 hq => ?_⟩
 rw [getD_of hq] at h1
 omega
theorem crk_lens {c : Crk} (h : isCrk c = true) : c.vals.length ≤ 64 ∧ c.rows.length = c.vals.length ∧ c.piv.length ≤ 2001 := by
 refine ⟨?_, ?_, ?_⟩
 ·simp only [isCrk, Bool.and_eq_true] at h
  exact (areVals_parts h.1.1.1).1
 ·simp only [isCrk, Bool.and_eq_true, decide_eq_true_eq] at h
  exact h.1.1.2
 ·rcases Nat.lt_or_ge 2001 c.piv.length with h' | h'
  ·rw [crk_many h'] at h; cases h
  ·exact h'
theorem at_lt {α : Type} {l : List α} {k : Nat} (h : k < l.length) : ∃ x, l[k]? = some x := ⟨_, List.getElem?_eq_getElem h⟩
theorem cut_bounds {c : Crk} (h : isCrk c = true) {k : Nat} (hk : k ≤ c.piv.length) : 0 ≤ aOf c.piv k ∧ aOf c.piv k ≤ zOf c.piv c.vals.length k ∧ zOf c.piv c.vals.length k ≤ c.vals.length := by
 rcases Nat.eq_zero_or_pos k with rfl | h0
 ·rcases Nat.eq_zero_or_pos c.piv.length with e | e
  ·rw [show zOf c.piv c.vals.length 0 = c.vals.length by simp [zOf, e]]
   simp [aOf]
  ·obtain ⟨p, hp⟩ := at_lt e
   have := piv_parts h hp
   rw [zOf_at hp]
   simp only [aOf, if_true]
   omega
 ·obtain ⟨q, hq⟩ := at_lt (l := c.piv) (k := k - 1) (by omega)
  have hq1 := piv_parts h hq
  have ha : aOf c.piv k = q.2 := by
   have := aOf_step hq
   rwa [show k - 1 + 1 = k by omega] at this
  rcases Nat.lt_or_ge k c.piv.length with h' | h'
  ·obtain ⟨p, hp⟩ := at_lt h'
   have hp1 := piv_parts h hp
   have := hp1.2.2 q h0 hq
   rw [zOf_at hp, ha]
   omega
  ·obtain rfl : k = c.piv.length := by omega
   rw [zOf_end, ha]
   omega
end Go.Proofs.YthnadkagchbhbaaGreat.E
