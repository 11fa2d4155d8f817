/- Walks through functions, by program out of the session's annotations. -/
import Derived.Test.YtcepgfcolmdnoaaA42
import Derived.Test.YtcepgfcolmdnoaaA03
import Derived.Test.YtcepgfcolmdnoaaA18
namespace Go.Proofs.Ytcepgfcolmdnoaa.E
open Go Go.RowKit Go.Proofs
set_option linter.unusedVariables false
set_option linter.unusedSimpArgs false

theorem isPv_iff {l:List (Int × Int)} {v:Int}:isPv l v=true ↔ ∃ p ∈ l,p.1=v:=by simp [isPv,fpv]
theorem fpv_mem {l : List (Int × Int)} {v : Int} {p : Int × Int} (h : fpv l v = some p) : p ∈ l ∧ p.1 = v := by
 refine⟨List.mem_of_find?_eq_some h,?_⟩
 have:=List.find?_some h
 simpa using this
theorem insPv_in {l : List (Int × Int)} {p q : Int × Int} (h : q = p ∨ q ∈ l) : q ∈ insPv l p := by
 simp only [insPv,List.mem_append,List.mem_singleton]
 rcases h with h|h
 ·exact .inl (.inr h)
 rw [← List.take_append_drop (cutIx l p.1) l] at h
 rcases List.mem_append.1 h with h|h
 ·exact .inl (.inl h)
 exact .inr h
theorem crackC_pv {c : Crk} {v : Int} : isPv (crackC c v).1.piv v = true := by
 cases h:isPv c.piv v
 ·rw [crackC, if_neg (by simp [h])]
  exact isPv_iff.2 ⟨_,insPv_in (.inl rfl),rfl⟩
 rw [crackC,if_pos h];exact h
theorem crackC_keep {c : Crk} {v u : Int} (hu : isPv c.piv u = true) : isPv (crackC c v).1.piv u = true := by
 cases h:isPv c.piv v
 ·rw [crackC, if_neg (by simp [h])]
  obtain⟨p,hp,e⟩:=isPv_iff.1 hu
  exact isPv_iff.2 ⟨p,insPv_in (.inr hp),e⟩
 rw [crackC,if_pos h];exact hu
theorem crackC_vals {c : Crk} {v : Int} : (crackC c v).1.vals.length = c.vals.length := by
 cases h:isPv c.piv v
 ·rw [crackC, if_neg (by simp [h])]
  exact swps_len _ _
 rw [crackC,if_pos h]
theorem fpAt_in {c : Crk} (hc : isCrk c = true) (v : Int) : 0 ≤ fpAt c.piv v ∧ fpAt c.piv v ≤ c.vals.length := by
 unfold fpAt
 cases h:fpv c.piv v with
 | none=>exact⟨Int.le_refl _,Int.natCast_nonneg _⟩
 | some p =>
  have:=((crk_iff c).1 hc).pv p (fpv_mem h).1
  exact⟨this.2.2.1,this.2.2.2.1⟩
theorem fpAt_mono {c : Crk} (hc : isCrk c = true) {u v : Int} (hu : isPv c.piv u = true) (hv : isPv c.piv v = true) (h : u ≤ v) : fpAt c.piv u ≤ fpAt c.piv v := by
 have hs:=crk_sorted hc
 unfold isPv at hu hv
 unfold fpAt
 cases e1:fpv c.piv u with
 | none=>rw [e1] at hu;cases hu
 | some p =>
  cases e2:fpv c.piv v with
  | none=>rw [e2] at hv;cases hv
  | some q =>
   obtain⟨p1,p2⟩:=fpv_mem e1
   obtain⟨q1,q2⟩:=fpv_mem e2
   obtain⟨i,hi⟩:=List.mem_iff_getElem?.1 p1
   obtain⟨j,hj⟩:=List.mem_iff_getElem?.1 q1
   show p.2≤q.2
   rcases Nat.lt_trichotomy i j with h'|h'|h'
   ·exact (hs i j p q h' hi hj).2
   ·subst h'
    rw [hi] at hj
    cases hj;exact Int.le_refl _
   have := (hs j i q p h' hj hi).1
   omega
/-- The ends of a range that was selected lie in the column, in order. -/
theorem sel_in {c : Crk} {r : Int × Int} (hk : selK c r = true) : isCrk (selC c r) = true ∧ 0 ≤ selLo c r ∧ selLo c r ≤ selHi c r ∧ selHi c r ≤ (selC c r).vals.length ∧ (selC c r).vals.length = c.vals.length := by
 have hcv:isCrk c=true∧isRng r=true:=by simpa [selK] using hk
 have hbd:=rng_bnd hcv.2
 have hle : r.1 ≤ r.2 := by
  have:=hcv.2
  simp only [isRng,Bool.and_eq_true,decide_eq_true_eq] at this
  omega
 have h1:=(crackC_ok hcv.1 hbd.1).1
 have h2:=(crackC_ok h1 hbd.2).1
 have e:selC c r=(crackC (crackC c r.1).1 r.2).1:=by rw [selC,if_pos hk,sel2]
 have e1:selLo c r=fpAt (crackC (crackC c r.1).1 r.2).1.piv r.1:=by rw [selLo,if_pos hk,sel2]
 have e2:selHi c r=fpAt (crackC (crackC c r.1).1 r.2).1.piv r.2:=by rw [selHi,if_pos hk,sel2]
 rw [e,e1,e2]
 exact⟨h2,(fpAt_in h2 _).1,fpAt_mono h2 (crackC_keep crackC_pv) crackC_pv hle,(fpAt_in h2 _).2,by rw [crackC_vals,crackC_vals]⟩
theorem lend_cutI {R : List Res} {i e a b tot : Nat} {xs : List Int} (hR : R[i]? = some (.row e 1 (ints xs))) (ht : xs.length = tot) : E.lend R (.c (.sl i (0 + a) (b - a) tot)) = .c (.ro (ints (cutV xs a b))) := by
 simp [E.lend,lendC,hR,ints_len,ht,cutV,ints_take,ints_drop]
end Go.Proofs.Ytcepgfcolmdnoaa.E
