/- Walks through functions, by program out of the session's annotations. -/
import Derived.Test.YtlodlnbhjghjoaaA16
namespace Go.Proofs.Ytlodlnbhjghjoaa.E
open Go Go.RowKit Go.Proofs
set_option linter.unusedVariables false
set_option linter.unusedSimpArgs false

def sorted1 (l : List (Int × Int)) : Prop := ∀ (i j : Nat) (p q : Int × Int), i < j → l[i]? = some p → l[j]? = some q → p.1 < q.1 ∧ p.2 ≤ q.2
theorem crk_sorted {c : Crk} (h : isCrk c = true) : sorted1 c.piv := by
  intro i j p q hij hp hq
  induction j generalizing q with
  | zero => omega
  | succ j ih =>
    have hjl : j + 1 < c.piv.length := by
      rcases Nat.lt_or_ge (j + 1) c.piv.length with h' | h'
      · exact h'
      · rw [List.getElem?_eq_none h'] at hq; cases hq
    obtain ⟨r, hr⟩ := at_lt (l := c.piv) (k := j) (by omega)
    have h1 := (piv_parts h hq).2.2 r (by omega) hr
    rcases Nat.lt_or_ge i j with h' | h'
    · have h2 := ih r h' hr
      omega
    · obtain rfl : i = j := by omega
      rw [hp] at hr
      obtain rfl := Option.some.inj hr
      omega
structure CrkOk (c : Crk) : Prop where
  vl : c.vals.length ≤ 64
  vr : ∀ q, q < c.vals.length → -999 ≤ c.vals.getD q 0 ∧ c.vals.getD q 0 ≤ 999
  rl : c.rows.length = c.vals.length
  rr : ∀ q, q < c.vals.length → 0 ≤ c.rows.getD q 0 ∧ c.rows.getD q 0 ≤ 999
  ri : ∀ q r, q < c.vals.length → r < c.vals.length → c.rows.getD q 0 = c.rows.getD r 0 → q = r
  pv : ∀ p ∈ c.piv, -1000 ≤ p.1 ∧ p.1 ≤ 1000 ∧ 0 ≤ p.2 ∧ p.2 ≤ c.vals.length ∧ ∀ q, q < c.vals.length → (c.vals.getD q 0 < p.1 ↔ (q : Int) < p.2)
  so : sorted1 c.piv
theorem side_iff (vals : List Int) (p : Int × Int) : allK (sideP vals p) vals.length = true ↔ ∀ q, q < vals.length → (vals.getD q 0 < p.1 ↔ (q : Int) < p.2) := by
  rw [allK_iff]
  refine forall_congr' fun k => ?_
  refine imp_congr_right fun hk => ?_
  simp only [sideP, beq_iff_eq, decide_eq_decide]
theorem getD_at {l : List Int} {q : Nat} (h : q < l.length) : l.getD q 0 = l[q] := by simp [List.getD_eq_getElem?_getD, h]
theorem dup_iff (rows : List Int) {k : Nat} (hk : k < rows.length) : dupP rows k = true ↔ ∀ j, j < k → rows.getD j 0 ≠ rows.getD k 0 := by
  simp only [dupP, Bool.not_eq_true', decide_eq_false_iff_not]
  constructor
  · intro h j hj e
    apply h
    rw [← e, getD_at (show j < rows.length by omega)]
    exact List.mem_of_getElem? (i := j) (by rw [List.getElem?_take, if_pos hj]; exact List.getElem?_eq_getElem (by omega))
  · intro h hm
    obtain ⟨j, hj, e⟩ := List.mem_iff_getElem.1 hm
    rw [List.length_take] at hj
    rw [List.getElem_take] at e
    exact h j (by omega) (by rw [getD_at (show j < rows.length by omega), e])
theorem crk_iff (c : Crk) : isCrk c = true ↔ CrkOk c := by
  constructor
  · intro h
    have hso := crk_sorted h
    obtain ⟨hl1, hl2, _⟩ := crk_lens h
    simp only [isCrk, Bool.and_eq_true, decide_eq_true_eq] at h
    obtain ⟨⟨⟨h1, _⟩, h3⟩, h4⟩ := h
    have hv := areVals_parts h1
    rw [allK_iff] at h3 h4
    refine ⟨hl1, fun q hq => ?_, hl2, fun q hq => ?_, fun q r hq hr e => ?_, fun p hp => ?_, hso⟩
    · rw [getD_at hq]; exact hv.2 _ (List.getElem_mem hq)
    · have := h3 q (by omega)
      simp only [rowP, isIn, Bool.and_eq_true, decide_eq_true_eq] at this
      omega
    · have h5 := fun k hk => (dup_iff c.rows (k := k) hk).1 (by have := h3 k hk; simp only [rowP, Bool.and_eq_true] at this; exact this.2)
      rcases Nat.lt_trichotomy q r with h' | h' | h'
      · exact absurd e (h5 r (by omega) q h')
      · exact h'
      · exact absurd e.symm (h5 q (by omega) r h')
    · obtain ⟨k, hk, rfl⟩ := List.mem_iff_getElem.1 hp
      have := h4 k hk
      rw [pivP, getD_of (List.getElem?_eq_getElem hk)] at this
      simp only [pivQ, isIn, Bool.and_eq_true, decide_eq_true_eq] at this
      exact ⟨this.1.1.1.1, this.1.1.1.2, this.1.1.2.1, this.1.1.2.2, (side_iff _ _).1 this.2⟩
  · intro h
    simp only [isCrk, Bool.and_eq_true, decide_eq_true_eq]
    refine ⟨⟨⟨?_, h.rl⟩, ?_⟩, ?_⟩
    · simp only [areVals, Bool.and_eq_true, decide_eq_true_eq, List.all_eq_true]
      refine ⟨h.vl, fun x hx => ?_⟩
      obtain ⟨q, hq, rfl⟩ := List.mem_iff_getElem.1 hx
      have := h.vr q hq
      rwa [getD_at hq] at this
    · rw [allK_iff]
      intro k hk
      have hk' : k < c.vals.length := by rw [← h.rl]; exact hk
      have := h.rr k hk'
      simp only [rowP, isIn, Bool.and_eq_true, decide_eq_true_eq]
      exact ⟨this, (dup_iff _ hk).2 fun j hj e => by have := h.ri j k (by omega) hk' e; omega⟩
    · rw [allK_iff]
      intro k hk
      have hp := h.pv _ (List.getElem_mem hk)
      rw [pivP, getD_of (List.getElem?_eq_getElem hk)]
      simp only [pivQ, isIn, Bool.and_eq_true, Bool.or_eq_true, decide_eq_true_eq]
      refine ⟨⟨⟨⟨hp.1, hp.2.1⟩, hp.2.2.1, hp.2.2.2.1⟩, ?_⟩, (side_iff _ _).2 hp.2.2.2.2⟩
      rcases Nat.eq_zero_or_pos k with h0 | h0
      · exact .inl h0
      · obtain ⟨q, hq⟩ := at_lt (l := c.piv) (k := k - 1) (by omega)
        have := h.so (k - 1) k q _ (by omega) hq (List.getElem?_eq_getElem hk)
        rw [getD_of hq]
        exact .inr this
end Go.Proofs.Ytlodlnbhjghjoaa.E
