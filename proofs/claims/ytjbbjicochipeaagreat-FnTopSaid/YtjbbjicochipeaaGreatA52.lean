/- Walks through functions, by program out of the session's annotations. -/
import Derived.Test.YtjbbjicochipeaaGreatA42
import Derived.Test.YtjbbjicochipeaaGreatA03
import Derived.Test.YtjbbjicochipeaaGreatA18
namespace Go.Proofs.YtjbbjicochipeaaGreat.E
open Go Go.RowKit Go.Proofs
set_option linter.unusedVariables false
set_option linter.unusedSimpArgs false

theorem isPv_iff {l:List (Int × Int)} {v:Int}:isPv l v=true ↔ ∃ p ∈ l,p.1=v:=by simp [isPv,fpv]
theorem fpv_mem {l : List (Int × Int)} {v : Int} {p : Int × Int} (h : fpv l v = some p) : p ∈ l ∧ p.1 = v := by
 refine⟨List.mem_of_find?_eq_some h,?_⟩
 have:=List.find?_some h
 simpa using this
theorem insPv_in {l : List (Int × Int)} {p q : Int × Int} (h : q = p ∨ q ∈ l) : q ∈ insPv l p := by
 simp only [insPv,List.mem_append,List.mem_singleton]
 rcases h with h|h
 ·exact .inl (.inr h)
 rw [← List.take_append_drop (cutIx l p.1) l] at h
 rcases List.mem_append.1 h with h|h
 ·exact .inl (.inl h)
 exact .inr h
theorem crackC_pv {c : Crk} {v : Int} : isPv (crackC c v).1.piv v = true := by
 cases h:isPv c.piv v
 ·rw [crackC, if_neg (by simp [h])]
  exact isPv_iff.2 ⟨_,insPv_in (.inl rfl),rfl⟩
 rw [crackC,if_pos h];exact h
theorem crackC_keep {c : Crk} {v u : Int} (hu : isPv c.piv u = true) : isPv (crackC c v).1.piv u = true := by
 cases h:isPv c.piv v
 ·rw [crackC, if_neg (by simp [h])]
  obtain⟨p,hp,e⟩:=isPv_iff.1 hu
  exact isPv_iff.2 ⟨p,insPv_in (.inr hp),e⟩
 rw [crackC,if_pos h];exact hu
theorem crackC_piv {c : Crk} {v : Int} : (crackC c v).1.piv.length = if isPv c.piv v = true then c.piv.length else c.piv.length + 1 := by
 cases h:isPv c.piv v
 ·rw [crackC, if_neg (by simp [h]), if_neg (by simp)]
  exact insPv_len _ _
 rw [crackC,if_pos h,if_pos rfl]
theorem fpAt_mono {c : Crk} (hc : isCrk c = true) {u v : Int} (hu : isPv c.piv u = true) (hv : isPv c.piv v = true) (h : u ≤ v) : fpAt c.piv u ≤ fpAt c.piv v := by
 have hs:=crk_sorted hc
 unfold isPv at hu hv
 unfold fpAt
 cases e1:fpv c.piv u with
 | none=>rw [e1] at hu;cases hu
 | some p =>
  cases e2:fpv c.piv v with
  | none=>rw [e2] at hv;cases hv
  | some q =>
   obtain⟨p1,p2⟩:=fpv_mem e1
   obtain⟨q1,q2⟩:=fpv_mem e2
   obtain⟨i,hi⟩:=List.mem_iff_getElem?.1 p1
   obtain⟨j,hj⟩:=List.mem_iff_getElem?.1 q1
   show p.2≤q.2
   rcases Nat.lt_trichotomy i j with h'|h'|h'
   ·exact (hs i j p q h' hi hj).2
   ·subst h'
    rw [hi] at hj
    cases hj;exact Int.le_refl _
   have := (hs j i q p h' hj hi).1
   omega
end Go.Proofs.YtjbbjicochipeaaGreat.E
