/- Walks through functions, by program out of the session's annotations. -/
import Derived.Test.YtlodlnbhjghjoaaA11
import Derived.Test.YtlodlnbhjghjoaaF3
namespace Go.Proofs.Ytlodlnbhjghjoaa.E
open Go Go.RowKit Go.Proofs
set_option linter.unusedVariables false
set_option linter.unusedSimpArgs false

/-- Pivots as a column has them: what follows of it. -/
theorem piv_parts {c : Crk} (h : isCrk c = true) {k : Nat} {p : Int × Int} (hp : c.piv[k]? = some p) : 0 ≤ p.2 ∧ p.2 ≤ c.vals.length ∧ ∀ q, 0 < k → c.piv[k - 1]? = some q → q.1 < p.1 ∧ q.2 ≤ p.2 := by
  have hk : k < c.piv.length := by
    rcases Nat.lt_or_ge k c.piv.length with h' | h'
    · exact h'
    · rw [List.getElem?_eq_none h'] at hp; cases hp
  simp only [isCrk, Bool.and_eq_true] at h
  have h1 := allK_at h.2 hk
  rw [pivP, getD_of hp] at h1
  simp only [pivQ, isIn, Bool.and_eq_true, Bool.or_eq_true, decide_eq_true_eq] at h1
  refine ⟨by omega, by omega, fun q h0 hq => ?_⟩
  rw [getD_of hq] at h1
  omega
theorem crk_lens {c : Crk} (h : isCrk c = true) : c.vals.length ≤ 64 ∧ c.rows.length = c.vals.length ∧ c.piv.length ≤ 2001 := by
  refine ⟨?_, ?_, ?_⟩
  · simp only [isCrk, Bool.and_eq_true] at h
    exact (areVals_parts h.1.1.1).1
  · simp only [isCrk, Bool.and_eq_true, decide_eq_true_eq] at h
    exact h.1.1.2
  · rcases Nat.lt_or_ge 2001 c.piv.length with h' | h'
    · rw [crk_many h'] at h; cases h
    · exact h'
theorem at_lt {α : Type} {l : List α} {k : Nat} (h : k < l.length) : ∃ x, l[k]? = some x := ⟨_, List.getElem?_eq_getElem h⟩
end Go.Proofs.Ytlodlnbhjghjoaa.E
