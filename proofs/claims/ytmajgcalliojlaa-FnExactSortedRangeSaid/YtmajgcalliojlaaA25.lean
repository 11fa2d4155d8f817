/- Walks through functions, by program out of the session's annotations. -/
import Derived.Test.YtmajgcalliojlaaA14
import Derived.Test.YtmajgcalliojlaaA24
namespace Go.Proofs.Ytmajgcalliojlaa.E
open Go Go.RowKit Go.Proofs
set_option linter.unusedVariables false
set_option linter.unusedSimpArgs false

def insP (c : Crk) (p : Pnd) (k : Nat) : Bool := isItem (p.ins.getD k (0, 0)) && decide (rowIx c.rows (p.ins.getD k (0, 0)).2 < 0) && !decide ((p.ins.getD k (0, 0)).2 ∈ (p.ins.map (·.2)).take k)
def delP (c : Crk) (p : Pnd) (k : Nat) : Bool := decide (rowIx c.rows (p.del.getD k 0) ≥ 0) && dupP p.del k
def pndN (c : Crk) (p : Pnd) : Bool := decide (p.ins.length ≤ 20) && decide (p.del.length ≤ 20) && decide (c.vals.length + p.ins.length ≤ 64)
/-- Are they updates as they have to be? -/
def isPnd (c : Crk) (p : Pnd) : Bool := isCrk c && pndN c p && allK (insP c p) p.ins.length && allK (delP c p) p.del.length
theorem insP_at {c : Crk} {p : Pnd} {k : Nat} {x : Int × Int} (h : p.ins[k]? = some x) : insP c p k = (isItem x && decide (rowIx c.rows x.2 < 0) && !decide (x.2 ∈ (p.ins.map (·.2)).take k)) := by rw [insP, getD_of h]
theorem delP_at {c : Crk} {p : Pnd} {k : Nat} {x : Int} (h : p.del[k]? = some x) : delP c p k = (decide (rowIx c.rows x ≥ 0) && !decide (x ∈ p.del.take k)) := by rw [delP, getD_of h, dupP_at h]
theorem pnd_no_ins {c : Crk} {p : Pnd} {k : Nat} (hk : k < p.ins.length) (h : insP c p k = false) : isPnd c p = false := by simp [isPnd, allK_not h hk]
theorem pnd_no_del {c : Crk} {p : Pnd} {k : Nat} (hk : k < p.del.length) (h : delP c p k = false) : isPnd c p = false := by simp [isPnd, allK_not h hk]
theorem ix_first {l : List Int} {k : Nat} {x : Int} (h : l[k]? = some x) : (rowIx l x = k) ↔ ¬ x ∈ l.take k := by
  constructor
  · intro he hm
    obtain ⟨j, hj, e⟩ := List.mem_iff_getElem.1 hm
    have hj1 : j < k ∧ j < l.length := by rw [List.length_take] at hj; omega
    have e' : l[j] = x := by rw [List.getElem_take] at e; exact e
    have hany : l.any (fun y => decide (x = y)) = true := List.any_eq_true.2 ⟨x, List.mem_of_getElem? h, by simp⟩
    rw [rowIx, fIdx, if_pos hany] at he
    have := List.not_of_lt_findIdx (p := fun y => decide (x = y)) (xs := l) (i := j) (by omega)
    rw [e'] at this
    simp at this
  · intro hm
    exact fIdx_at (p := fun y => decide (x = y)) (by rw [List.any_eq_false]; intro y hy; simp; intro e; subst e; exact hm hy) h (by simp)

end Go.Proofs.Ytmajgcalliojlaa.E
