/- Walks through functions, by program out of the session's annotations. -/
import Derived.Test.YthnadkagchbhbaaGreatA16
namespace Go.Proofs.YthnadkagchbhbaaGreat.E
open Go Go.RowKit Go.Proofs
set_option linter.unusedVariables false
set_option linter.unusedSimpArgs false

/-- A pivot with a value. -/
def fpv (l : List (Int × Int)) (v : Int) : Option (Int × Int) := l.find? fun p => decide (p.1 = v)
def fpAt (l : List (Int × Int)) (v : Int) : Int := match fpv l v with | some p => p.2 | none => 0
def isPv (l : List (Int × Int)) (v : Int) : Bool := (fpv l v).isSome
theorem fpv_at : ∀ {l : List (Int × Int)} {v : Int} {k : Nat} {p : Int × Int}, (∀ q ∈ l.take k, q.1 ≠ v) → l[k]? = some p → p.1 = v → fpv l v = some p
 | a :: l, v, 0, p, _, hp, hv => by
  obtain rfl : a = p := by simpa using hp
  simp [fpv, hv]
 | a :: l, v, k + 1, p, h, hp, hv => by
  have h0 : a.1 ≠ v := h a (by simp)
  have := fpv_at (l := l) (k := k) (p := p) (fun q hq => h q (by simp [hq])) (by simpa using hp) hv
  simpa [fpv, h0] using this
theorem fpv_none {l : List (Int × Int)} {v : Int} (h : ∀ q ∈ l, q.1 ≠ v) : fpv l v = none := by simpa [fpv] using h
theorem isPv_no {l : List (Int × Int)} {v : Int} (h : isPv l v = false) : ∀ q ∈ l, q.1 ≠ v := by simpa [isPv, fpv] using h
theorem ne_step {l : List (Int × Int)} {v : Int} {k : Nat} {p : Int × Int} (h : ∀ q ∈ l.take k, q.1 ≠ v) (hp : l[k]? = some p) (hv : p.1 ≠ v) : ∀ q ∈ l.take (k + 1), q.1 ≠ v := by
 intro q hq
 rw [List.take_add_one, hp] at hq
 rcases List.mem_append.1 hq with hq | hq
 ·exact h q hq
 ·obtain rfl : q = p := by simpa using hq
  exact hv
/-- Where the pivots begin that are not less. -/
def geIx (l : List (Int × Int)) (v : Int) : Nat := l.findIdx fun p => decide (v ≤ p.1)
theorem geIx_le (l : List (Int × Int)) (v : Int) : geIx l v ≤ l.length := List.findIdx_le_length
theorem geIx_at {l : List (Int × Int)} {v : Int} {k : Nat} {p : Int × Int} (h : ∀ q ∈ l.take k, q.1 < v) (hp : l[k]? = some p) (hv : v ≤ p.1) : geIx l v = k := by
 have hk : k < l.length := by
  rcases Nat.lt_or_ge k l.length with h' | h'
  ·exact h'
  ·rw [List.getElem?_eq_none h'] at hp; cases hp
 unfold geIx
 rw [List.findIdx_eq hk]
 refine ⟨by rw [List.getElem?_eq_getElem hk] at hp; rw [Option.some.inj hp]; simpa using hv, fun j hj => ?_⟩
 have := h l[j] (List.mem_of_getElem? (i := j) (by rw [List.getElem?_take, if_pos hj]; exact List.getElem?_eq_getElem (by omega)))
 simpa using this
theorem geIx_none {l : List (Int × Int)} {v : Int} (h : ∀ q ∈ l, q.1 < v) : geIx l v = l.length := by
 unfold geIx
 rw [List.findIdx_eq_length]
 intro q hq
 have := h q hq
 simpa using this
theorem lt_step {l : List (Int × Int)} {v : Int} {k : Nat} {p : Int × Int} (h : ∀ q ∈ l.take k, q.1 < v) (hp : l[k]? = some p) (hv : p.1 < v) : ∀ q ∈ l.take (k + 1), q.1 < v := by
 intro q hq
 rw [List.take_add_one, hp] at hq
 rcases List.mem_append.1 hq with hq | hq
 ·exact h q hq
 ·obtain rfl : q = p := by simpa using hq
  exact hv
theorem geIx_below {l : List (Int × Int)} {v : Int} {j : Nat} {q : Int × Int} (hj : j < geIx l v) (hq : l[j]? = some q) : q.1 < v := by
 have hjl : j < l.length := by
  rcases Nat.lt_or_ge j l.length with h' | h'
  ·exact h'
  ·rw [List.getElem?_eq_none h'] at hq; cases hq
 have := List.not_of_lt_findIdx (p := fun p : Int × Int => decide (v ≤ p.1)) (xs := l) hj
 rw [List.getElem?_eq_getElem hjl] at hq
 rw [Option.some.inj hq] at this
 simpa using this
theorem geIx_here {l : List (Int × Int)} {v : Int} {q : Int × Int} (hq : l[geIx l v]? = some q) : v ≤ q.1 := by
 have hjl : geIx l v < l.length := by
  rcases Nat.lt_or_ge (geIx l v) l.length with h' | h'
  ·exact h'
  ·rw [List.getElem?_eq_none h'] at hq; cases hq
 have := List.findIdx_getElem (p := fun p : Int × Int => decide (v ≤ p.1)) (xs := l) (w := hjl)
 have e : l[geIx l v] = q := by rw [List.getElem?_eq_getElem hjl] at hq; exact Option.some.inj hq
 have e2 : l[l.findIdx fun p : Int × Int => decide (v ≤ p.1)] = q := e
 rw [e2] at this
 simpa using this
/-- The piece of a value. -/
def pcTo (l : List (Int × Int)) (n v : Int) : Int := zOf l n (geIx l v)
def pcFrom (l : List (Int × Int)) (v : Int) : Int := if geIx l v < l.length ∧ (l.getD (geIx l v) (0, 0)).1 = v then (l.getD (geIx l v) (0, 0)).2 else aOf l (geIx l v)
/-- The last of the first k that is not greater. -/
def lastLe (l : List (Int × Int)) (v : Int) : Nat → Int
 | 0 => 0
 | k + 1 => if (l.getD k (0, 0)).1 ≤ v then (l.getD k (0, 0)).2 else lastLe l v k
def geAt (n v : Int) : List (Int × Int) → Int
 | [] => n
 | p :: l => if v ≤ p.1 then p.2 else geAt n v l
theorem geAt_eq (n v : Int) : ∀ l : List (Int × Int), geAt n v l = pcTo l n v
 | [] => by simp [geAt, pcTo, zOf]
 | p :: l => by
  have ih := geAt_eq n v l
  simp only [geAt, pcTo, geIx, List.findIdx_cons] at ih ⊢
  by_cases h : v ≤ p.1
  ·simp [h, zOf]
  ·have hd : decide (v ≤ p.1) = false := by simpa using h
   rw [if_neg h, ih, hd]
   simp only [zOf, List.length_cons, Nat.add_lt_add_iff_right, cond_false, List.getD_cons_succ]
def sorted1 (l : List (Int × Int)) : Prop := ∀ (i j : Nat) (p q : Int × Int), i < j → l[i]? = some p → l[j]? = some q → p.1 < q.1 ∧ p.2 ≤ q.2
theorem crk_sorted {c : Crk} (h : isCrk c = true) : sorted1 c.piv := by
 intro i j p q hij hp hq
 induction j generalizing q with
 | zero => omega
 | succ j ih =>
  have hjl : j + 1 < c.piv.length := by
   rcases Nat.lt_or_ge (j + 1) c.piv.length with h' | h'
   ·exact h'
   ·rw [List.getElem?_eq_none h'] at hq; cases hq
  obtain ⟨r, hr⟩ := at_lt (l := c.piv) (k := j) (by omega)
  have h1 := (piv_parts h hq).2.2 r (by omega) hr
  rcases Nat.lt_or_ge i j with h' | h'
  ·have h2 := ih r h' hr
   omega
  ·obtain rfl : i = j := by omega
   rw [hp] at hr
   obtain rfl := Option.some.inj hr
   omega
theorem lastLe_stop {l : List (Int × Int)} {v : Int} {k : Nat} (h : ∀ j q, k ≤ j → l[j]? = some q → v < q.1) : ∀ m, k ≤ m → m ≤ l.length → lastLe l v m = lastLe l v k
  | 0, hk, _ => by obtain rfl : k = 0 := by omega
                   rfl
  | m + 1, hk, hm => by
    rcases Nat.lt_or_ge m k with h' | h'
    · obtain rfl : k = m + 1 := by omega
      rfl
    · obtain ⟨q, hq⟩ := at_lt (l := l) (k := m) (by omega)
      have := h m q h' hq
      rw [lastLe, getD_of hq, if_neg (by omega)]
      exact lastLe_stop h m h' (by omega)
theorem lastLe_all {l : List (Int × Int)} {v : Int} : ∀ k, k ≤ l.length → (∀ j q, j < k → l[j]? = some q → q.1 ≤ v) → lastLe l v k = aOf l k
 | 0, _, _ => rfl
 | k + 1, hk, h => by
  obtain ⟨q, hq⟩ := at_lt (l := l) (k := k) (by omega)
  rw [lastLe, getD_of hq, if_pos (h k q (by omega) hq), aOf_step hq]
theorem lastLe_eq {l : List (Int × Int)} (hs : sorted1 l) (v : Int) : lastLe l v l.length = pcFrom l v := by
 have hle := geIx_le l v
 by_cases hc : geIx l v < l.length ∧ (l.getD (geIx l v) (0, 0)).1 = v
 ·obtain ⟨q, hq⟩ := at_lt hc.1
  rw [getD_of hq] at hc
  rw [pcFrom, getD_of hq, if_pos ⟨hc.1, hc.2⟩, lastLe_stop (k := geIx l v + 1) (fun j r hj hr => ?_) l.length (by omega) (Nat.le_refl _), lastLe, getD_of hq, if_pos (by omega)]
  have := hs _ _ _ _ (show geIx l v < j by omega) hq hr
  omega
 ·rw [pcFrom, if_neg hc, lastLe_stop (k := geIx l v) (fun j r hj hr => ?_) l.length hle (Nat.le_refl _)]
  ·exact lastLe_all _ hle fun j q hj hq => by have := geIx_below hj hq; omega
  ·have hjl : j < l.length := by
    rcases Nat.lt_or_ge j l.length with h' | h'
    ·exact h'
    ·rw [List.getElem?_eq_none h'] at hr; cases hr
   obtain ⟨q, hq⟩ := at_lt (l := l) (k := geIx l v) (by omega)
   have h1 := geIx_here hq
   have h2 : q.1 ≠ v := fun e => hc ⟨by omega, by rw [getD_of hq]; exact e⟩
   rcases Nat.lt_or_ge (geIx l v) j with h' | h'
   ·have := hs _ _ _ _ h' hq hr
    omega
   ·obtain rfl : j = geIx l v := by omega
    rw [hq] at hr
    obtain rfl := Option.some.inj hr
    omega
/-- Swaps that divide: fuel is what lies between. -/
def partS (vs : List Int) (v : Int) (i e : Nat) (acc : List (Int × Int)) : List (Int × Int) × Int :=
 if h : i < e then
  if vs.getD i 0 < v then partS vs v (i + 1) e acc
  else if v ≤ vs.getD (e - 1) 0 then partS vs v i (e - 1) acc
  else partS vs v (i + 1) (e - 1) (acc ++ [((i : Int), ((e - 1 : Nat) : Int))])
 else (acc, (i : Int))
termination_by e - i
def swp (l : List Int) (s : Int × Int) : List Int := (l.set s.1.toNat (l.getD s.2.toNat 0)).set s.2.toNat (l.getD s.1.toNat 0)
def swps (l : List Int) (sw : List (Int × Int)) : List Int := sw.foldl swp l
theorem swp_len (l : List Int) (s : Int × Int) : (swp l s).length = l.length := by simp [swp]
theorem swps_len : ∀ (sw : List (Int × Int)) (l : List Int), (swps l sw).length = l.length
 | [], _ => rfl
 | s :: sw, l => by rw [swps, List.foldl_cons]; exact (swps_len sw _).trans (swp_len l s)
theorem swps_app (l : List Int) (a b : List (Int × Int)) : swps l (a ++ b) = swps (swps l a) b := by simp [swps]
def swaped (c : Crk) (sw : List (Int × Int)) : Crk := ⟨swps c.vals sw, swps c.rows sw, c.piv⟩
/-- Two places change. -/
def tr1 (i j q : Nat) : Nat := if q = i then j else if q = j then i else q
theorem getD_eq {l : List Int} {q : Nat} : l.getD q 0 = (l[q]?).getD 0 := by simp [List.getD_eq_getElem?_getD]
theorem swp_at (l : List Int) (s : Int × Int) (h1 : s.1.toNat < l.length) (h2 : s.2.toNat < l.length) (q : Nat) : (swp l s).getD q 0 = l.getD (tr1 s.1.toNat s.2.toNat q) 0 := by
 unfold swp tr1
 generalize s.1.toNat = i at *
 generalize s.2.toNat = j at *
 simp only [getD_eq]
 by_cases hj : q = j
 ·subst hj
  rw [List.getElem?_set_self (by simpa using h2)]
  by_cases hi : q = i
  ·subst hi; simp
  ·rw [if_neg hi, if_pos rfl]; rfl
 ·rw [List.getElem?_set_ne (Ne.symm hj)]
  by_cases hi : q = i
  ·subst hi
   rw [List.getElem?_set_self h1, if_pos rfl]; rfl
  ·rw [List.getElem?_set_ne (Ne.symm hi), if_neg hi, if_neg hj]
theorem tr1_inj {i j q r : Nat} (h : tr1 i j q = tr1 i j r) : q = r := by
 unfold tr1 at h
 repeat' split at h
 all_goals omega
def tau : List (Int × Int) → Nat → Nat
 | [], q => q
 | s :: sw, q => tr1 s.1.toNat s.2.toNat (tau sw q)
theorem tau_inj : ∀ {sw : List (Int × Int)} {q r : Nat}, tau sw q = tau sw r → q = r
 | [], _, _, h => h
 | _ :: _, _, _, h => tau_inj (tr1_inj h)
def swIn (a b : Int) (sw : List (Int × Int)) : Prop := ∀ s ∈ sw, a ≤ s.1 ∧ s.1 < b ∧ a ≤ s.2 ∧ s.2 < b
theorem tr1_in {a b : Int} {s : Int × Int} (ha : 0 ≤ a) (h : a ≤ s.1 ∧ s.1 < b ∧ a ≤ s.2 ∧ s.2 < b) (q : Nat) : (a ≤ (q : Int) ∧ (q : Int) < b → a ≤ (tr1 s.1.toNat s.2.toNat q : Int) ∧ (tr1 s.1.toNat s.2.toNat q : Int) < b) ∧ (¬ (a ≤ (q : Int) ∧ (q : Int) < b) → tr1 s.1.toNat s.2.toNat q = q) := by
 unfold tr1
 constructor
 ·intro h'
  repeat' split
  all_goals omega
 ·intro h'
  rw [if_neg (by omega), if_neg (by omega)]
theorem tau_in {a b : Int} (ha : 0 ≤ a) : ∀ {sw : List (Int × Int)}, swIn a b sw → ∀ q : Nat, (a ≤ (q : Int) ∧ (q : Int) < b → a ≤ (tau sw q : Int) ∧ (tau sw q : Int) < b) ∧ (¬ (a ≤ (q : Int) ∧ (q : Int) < b) → tau sw q = q)
 | [], _, q => ⟨fun h => h, fun _ => rfl⟩
 | s :: sw, h, q => by
  obtain ⟨h1, h2⟩ := tau_in ha (sw := sw) (fun x hx => h x (List.mem_cons_of_mem _ hx)) q
  have hs := tr1_in ha (h s (List.mem_cons_self ..)) (tau sw q)
  refine ⟨fun hq => hs.1 (h1 hq), fun hq => ?_⟩
  have e := h2 hq
  rw [tau, e]
  rw [e] at hs
  exact hs.2 hq
theorem swps_at : ∀ (sw : List (Int × Int)) (l : List Int), swIn 0 l.length sw → ∀ q : Nat, (swps l sw).getD q 0 = l.getD (tau sw q) 0
 | [], _, _, _ => rfl
 | s :: sw, l, h, q => by
  have h0 := h s (List.mem_cons_self ..)
  have ih := swps_at sw (swp l s) (fun x hx => by rw [swp_len]; exact h x (List.mem_cons_of_mem _ hx)) q
  rw [swps, List.foldl_cons]
  exact ih.trans (swp_at l s (by omega) (by omega) _)
/-- What a division leaves. -/
theorem partS_ok (vs : List Int) (v : Int) : ∀ (m i e : Nat) (acc : List (Int × Int)) (l : List Int), e - i = m → i ≤ e → e ≤ l.length → (∀ q : Nat, i ≤ q → q < e → l.getD q 0 = vs.getD q 0) →
  ∃ (new : List (Int × Int)) (at_ : Nat), partS vs v i e acc = (acc ++ new, (at_ : Int)) ∧ i ≤ at_ ∧ at_ ≤ e ∧ swIn i e new ∧ 2 * new.length ≤ e - i ∧ (∀ q : Nat, i ≤ q → q < at_ → (swps l new).getD q 0 < v) ∧ (∀ q : Nat, at_ ≤ q → q < e → v ≤ (swps l new).getD q 0) := by
 intro m
 induction m using Nat.strongRecOn with
 | _ m ih =>
  intro i e acc l hm hie hel hl
  rw [partS]
  by_cases h : i < e
  ·rw [dif_pos h]
   by_cases h1 : vs.getD i 0 < v
   ·rw [if_pos h1]
    obtain ⟨new, at_, k1, k2, k3, k4, k5, k6, k7⟩ := ih (e - (i + 1)) (by omega) (i + 1) e acc l rfl (by omega) hel (fun q h1 h2 => hl q (by omega) h2)
    refine ⟨new, at_, k1, by omega, k3, fun s hs => by have := k4 s hs; omega, by omega, fun q hq1 hq2 => ?_, k7⟩
    rcases Nat.lt_or_ge i q with h' | h'
    ·exact k6 q (by omega) hq2
    ·obtain rfl : q = i := by omega
     rw [swps_at new l (fun s hs => by have := k4 s hs; omega), (tau_in (a := ((q + 1 : Nat) : Int)) (b := (e : Int)) (by omega) k4 q).2 (by omega), hl q (Nat.le_refl _) h]
     exact h1
   ·rw [if_neg h1]
    by_cases h2 : v ≤ vs.getD (e - 1) 0
    ·rw [if_pos h2]
     obtain ⟨new, at_, k1, k2, k3, k4, k5, k6, k7⟩ := ih (e - 1 - i) (by omega) i (e - 1) acc l rfl (by omega) (by omega) (fun q h1 h2 => hl q h1 (by omega))
     refine ⟨new, at_, k1, k2, by omega, fun s hs => by have := k4 s hs; omega, by omega, k6, fun q hq1 hq2 => ?_⟩
     rcases Nat.lt_or_ge q (e - 1) with h' | h'
     ·exact k7 q hq1 h'
     ·obtain rfl : q = e - 1 := by omega
      rw [swps_at new l (fun s hs => by have := k4 s hs; omega), (tau_in (a := (i : Int)) (b := ((e - 1 : Nat) : Int)) (by omega) k4 (e - 1)).2 (by omega), hl (e - 1) (by omega) hq2]
      exact h2
    ·rw [if_neg h2]
     have hne : i ≠ e - 1 := fun e' => by rw [← e'] at h2; omega
     have hs1 : ((i : Int).toNat) = i := by omega
     have hs2 : (((e - 1 : Nat) : Int).toNat) = e - 1 := by omega
     have hsw := swp_at l ((i : Int), ((e - 1 : Nat) : Int)) (by simp; omega) (by simp; omega)
     simp only [hs1, hs2] at hsw
     obtain ⟨new, at_, k1, k2, k3, k4, k5, k6, k7⟩ := ih (e - 1 - (i + 1)) (by omega) (i + 1) (e - 1) (acc ++ [((i : Int), ((e - 1 : Nat) : Int))]) (swp l ((i : Int), ((e - 1 : Nat) : Int))) rfl (by omega) (by rw [swp_len]; omega) (fun q h1 h2 => by
      rw [hsw q, tr1, if_neg (by omega), if_neg (by omega)]
      exact hl q (by omega) (by omega))
     have hfold : swps l (((i : Int), ((e - 1 : Nat) : Int)) :: new) = swps (swp l ((i : Int), ((e - 1 : Nat) : Int))) new := rfl
     have hout : ∀ q : Nat, ¬ (i + 1 ≤ q ∧ q < e - 1) → (swps (swp l ((i : Int), ((e - 1 : Nat) : Int))) new).getD q 0 = l.getD (tr1 i (e - 1) q) 0 := fun q hq => by
      rw [swps_at new _ (fun s hs => by have := k4 s hs; rw [swp_len]; omega), (tau_in (a := ((i + 1 : Nat) : Int)) (b := ((e - 1 : Nat) : Int)) (by omega) k4 q).2 (by omega), hsw]
     refine ⟨((i : Int), ((e - 1 : Nat) : Int)) :: new, at_, by rw [k1]; simp, by omega, by omega, fun s hs => ?_, by simp only [List.length_cons]; omega, fun q hq1 hq2 => ?_, fun q hq1 hq2 => ?_⟩
     ·rcases List.mem_cons.1 hs with rfl | hs
      ·dsimp only; omega
      ·have := k4 s hs; omega
     ·rw [hfold]
      rcases Nat.lt_or_ge i q with h' | h'
      ·exact k6 q (by omega) hq2
      ·obtain rfl : q = i := by omega
       rw [hout q (by omega), tr1, if_pos rfl, hl (e - 1) (by omega) (by omega)]
       omega
     ·rw [hfold]
      rcases Nat.lt_or_ge q (e - 1) with h' | h'
      ·exact k7 q hq1 h'
      ·obtain rfl : q = e - 1 := by omega
       rw [hout (e - 1) (by omega), tr1, if_neg (by omega), if_pos rfl, hl i (Nat.le_refl _) h]
       omega
  ·rw [dif_neg h]
   obtain rfl : i = e := by omega
   exact ⟨[], i, by simp, Nat.le_refl _, Nat.le_refl _, fun s hs => by simp at hs, by simp, fun q h1 h2 => by omega, fun q h1 h2 => by omega⟩
structure CrkOk (c : Crk) : Prop where
 vl : c.vals.length ≤ 64
 vr : ∀ q, q < c.vals.length → -999 ≤ c.vals.getD q 0 ∧ c.vals.getD q 0 ≤ 999
 rl : c.rows.length = c.vals.length
 rr : ∀ q, q < c.vals.length → 0 ≤ c.rows.getD q 0 ∧ c.rows.getD q 0 ≤ 999
 ri : ∀ q r, q < c.vals.length → r < c.vals.length → c.rows.getD q 0 = c.rows.getD r 0 → q = r
 pv : ∀ p ∈ c.piv, -1000 ≤ p.1 ∧ p.1 ≤ 1000 ∧ 0 ≤ p.2 ∧ p.2 ≤ c.vals.length ∧ ∀ q, q < c.vals.length → (c.vals.getD q 0 < p.1 ↔ (q : Int) < p.2)
 so : sorted1 c.piv
theorem side_iff (vals : List Int) (p : Int × Int) : allK (sideP vals p) vals.length = true ↔ ∀ q, q < vals.length → (vals.getD q 0 < p.1 ↔ (q : Int) < p.2) := by
 rw [allK_iff]
 refine forall_congr' fun k => ?_
 refine imp_congr_right fun hk => ?_
 simp only [sideP, beq_iff_eq, decide_eq_decide]
theorem getD_at {l : List Int} {q : Nat} (h : q < l.length) : l.getD q 0 = l[q] := by simp [List.getD_eq_getElem?_getD, h]
theorem dup_iff (rows : List Int) {k : Nat} (hk : k < rows.length) : dupP rows k = true ↔ ∀ j, j < k → rows.getD j 0 ≠ rows.getD k 0 := by
 simp only [dupP, Bool.not_eq_true', decide_eq_false_iff_not]
 constructor
 ·intro h j hj e
  apply h
  rw [← e, getD_at (show j < rows.length by omega)]
  exact List.mem_of_getElem? (i := j) (by rw [List.getElem?_take, if_pos hj]; exact List.getElem?_eq_getElem (by omega))
 ·intro h hm
  obtain ⟨j, hj, e⟩ := List.mem_iff_getElem.1 hm
  rw [List.length_take] at hj
  rw [List.getElem_take] at e
  exact h j (by omega) (by rw [getD_at (show j < rows.length by omega), e])
theorem crk_iff (c : Crk) : isCrk c = true ↔ CrkOk c := by
 constructor
 ·intro h
  have hso := crk_sorted h
  obtain ⟨hl1, hl2, _⟩ := crk_lens h
  simp only [isCrk, Bool.and_eq_true, decide_eq_true_eq] at h
  obtain ⟨⟨⟨h1, _⟩, h3⟩, h4⟩ := h
  have hv := areVals_parts h1
  rw [allK_iff] at h3 h4
  refine ⟨hl1, fun q hq => ?_, hl2, fun q hq => ?_, fun q r hq hr e => ?_, fun p hp => ?_, hso⟩
  ·rw [getD_at hq]; exact hv.2 _ (List.getElem_mem hq)
  ·have := h3 q (by omega)
   simp only [rowP, isIn, Bool.and_eq_true, decide_eq_true_eq] at this
   omega
  ·have h5 := fun k hk => (dup_iff c.rows (k := k) hk).1 (by have := h3 k hk; simp only [rowP, Bool.and_eq_true] at this; exact this.2)
   rcases Nat.lt_trichotomy q r with h' | h' | h'
   ·exact absurd e (h5 r (by omega) q h')
   ·exact h'
   ·exact absurd e.symm (h5 q (by omega) r h')
  ·obtain ⟨k, hk, rfl⟩ := List.mem_iff_getElem.1 hp
   have := h4 k hk
   rw [pivP, getD_of (List.getElem?_eq_getElem hk)] at this
   simp only [pivQ, isIn, Bool.and_eq_true, decide_eq_true_eq] at this
   exact ⟨this.1.1.1.1, this.1.1.1.2, this.1.1.2.1, this.1.1.2.2, (side_iff _ _).1 this.2⟩
 ·intro h
  simp only [isCrk, Bool.and_eq_true, decide_eq_true_eq]
  refine ⟨⟨⟨?_, h.rl⟩, ?_⟩, ?_⟩
  ·simp only [areVals, Bool.and_eq_true, decide_eq_true_eq, List.all_eq_true]
   refine ⟨h.vl, fun x hx => ?_⟩
   obtain ⟨q, hq, rfl⟩ := List.mem_iff_getElem.1 hx
   have := h.vr q hq
   rwa [getD_at hq] at this
  ·rw [allK_iff]
   intro k hk
   have hk' : k < c.vals.length := by rw [← h.rl]; exact hk
   have := h.rr k hk'
   simp only [rowP, isIn, Bool.and_eq_true, decide_eq_true_eq]
   exact ⟨this, (dup_iff _ hk).2 fun j hj e => by have := h.ri j k (by omega) hk' e; omega⟩
  ·rw [allK_iff]
   intro k hk
   have hp := h.pv _ (List.getElem_mem hk)
   rw [pivP, getD_of (List.getElem?_eq_getElem hk)]
   simp only [pivQ, isIn, Bool.and_eq_true, Bool.or_eq_true, decide_eq_true_eq]
   refine ⟨⟨⟨⟨hp.1, hp.2.1⟩, hp.2.2.1, hp.2.2.2.1⟩, ?_⟩, (side_iff _ _).2 hp.2.2.2.2⟩
   rcases Nat.eq_zero_or_pos k with h0 | h0
   ·exact .inl h0
   ·obtain ⟨q, hq⟩ := at_lt (l := c.piv) (k := k - 1) (by omega)
    have := h.so (k - 1) k q _ (by omega) hq (List.getElem?_eq_getElem hk)
    rw [getD_of hq]
    exact .inr this
/-- A column with another pivot. -/
def insPv (l : List (Int × Int)) (p : Int × Int) : List (Int × Int) := l.take (cutIx l p.1) ++ [p] ++ l.drop (cutIx l p.1)
def withPv (c : Crk) (p : Int × Int) : Crk := ⟨c.vals, c.rows, insPv c.piv p⟩
def bnd (v : Int) : Bool := isIn v (-1000) 1000
def partC (c : Crk) (v : Int) : List (Int × Int) × Int := partS c.vals v (pcFrom c.piv v).toNat (pcTo c.piv c.vals.length v).toNat []
def crackC (c : Crk) (v : Int) : Crk × List (Int × Int) := if isPv c.piv v = true then (c, []) else (withPv (swaped c (partC c v).1) (v, (partC c v).2), (partC c v).1)
theorem cut_ge {l : List (Int × Int)} {v : Int} (h : isPv l v = false) : cutIx l v = geIx l v := by
 unfold cutIx geIx
 have hp := isPv_no h
 clear h
 induction l with
 | nil => rfl
 | cons p l ih =>
  have h0 := hp p (List.mem_cons_self ..)
  have e : decide (v < p.1) = decide (v ≤ p.1) := by rw [decide_eq_decide]; omega
  rw [List.findIdx_cons, List.findIdx_cons, e, ih fun q hq => hp q (List.mem_cons_of_mem _ hq)]
theorem pcFrom_a {l : List (Int × Int)} {v : Int} (h : isPv l v = false) : pcFrom l v = aOf l (geIx l v) := by
 rw [pcFrom, if_neg]
 rintro ⟨h1, h2⟩
 obtain ⟨q, hq⟩ := at_lt h1
 rw [getD_of hq] at h2
 exact isPv_no h q (List.mem_of_getElem? hq) h2
theorem pc_bounds {c : Crk} (h : isCrk c = true) (v : Int) : 0 ≤ pcFrom c.piv v ∧ pcFrom c.piv v ≤ pcTo c.piv c.vals.length v ∧ pcTo c.piv c.vals.length v ≤ c.vals.length := by
 have hb := cut_bounds h (geIx_le c.piv v)
 unfold pcFrom
 split
 ·rename_i h1
  obtain ⟨q, hq⟩ := at_lt h1.1
  have e : pcTo c.piv c.vals.length v = q.2 := by rw [pcTo, zOf_at hq]
  rw [e, getD_of hq]
  have := (piv_parts h hq)
  omega
 ·exact hb
theorem insPv_at (l : List (Int × Int)) (p : Int × Int) (j : Nat) : (insPv l p)[j]? = if j < cutIx l p.1 then l[j]? else if j = cutIx l p.1 then some p else l[j - 1]? := by
 have hle := cutIx_le l p.1
 unfold insPv
 rw [List.append_assoc]
 by_cases h1 : j < cutIx l p.1
 ·rw [if_pos h1, List.getElem?_append_left (by rw [List.length_take]; omega), List.getElem?_take, if_pos h1]
 ·rw [if_neg h1, List.getElem?_append_right (by rw [List.length_take]; omega), List.length_take, Nat.min_eq_left hle]
  by_cases h2 : j = cutIx l p.1
  ·subst h2; simp
  ·rw [if_neg h2, List.getElem?_append_right (by simp; omega), List.getElem?_drop]
   congr 1; simp; omega
theorem insPv_mem {l : List (Int × Int)} {p q : Int × Int} (h : q ∈ insPv l p) : q = p ∨ q ∈ l := by
 simp only [insPv, List.mem_append, List.mem_singleton] at h
 rcases h with (h | h) | h
 ·exact .inr (List.mem_of_mem_take h)
 ·exact .inl h
 ·exact .inr (List.mem_of_mem_drop h)
/-- What a crack does to a column as it has to be. -/
theorem crack_ok {c : Crk} {v : Int} (h : isCrk c = true) (hv : bnd v = true) (hp : isPv c.piv v = false) :
  ∃ at_ : Nat, (partC c v).2 = at_ ∧ pcFrom c.piv v ≤ at_ ∧ (at_ : Int) ≤ pcTo c.piv c.vals.length v ∧ swIn (pcFrom c.piv v) (pcTo c.piv c.vals.length v) (partC c v).1 ∧ 2 * ((partC c v).1.length : Int) ≤ pcTo c.piv c.vals.length v - pcFrom c.piv v ∧
   isCrk (swaped c (partC c v).1) = true ∧ isCrk (withPv (swaped c (partC c v).1) (v, (partC c v).2)) = true := by
 have hb := pc_bounds h v
 have ho := (crk_iff c).1 h
 have hfa := pcFrom_a hp
 have hcg := cut_ge hp
 have hpv : -1000 ≤ v ∧ v ≤ 1000 := by simpa [bnd, isIn] using hv
 obtain ⟨new, at_, k1, k2, k3, k4, k5, k6, k7⟩ := partS_ok c.vals v _ (pcFrom c.piv v).toNat (pcTo c.piv c.vals.length v).toNat [] c.vals rfl (by omega) (by omega) (fun _ _ _ => rfl)
 rw [List.nil_append] at k1
 have e0 : partC c v = (new, (at_ : Int)) := k1
 rw [e0]
 have hin : swIn (pcFrom c.piv v) (pcTo c.piv c.vals.length v) new := fun s hs => by have := k4 s hs; omega
 have hin0 : swIn 0 c.vals.length new := fun s hs => by have := hin s hs; omega
 have htau := fun q => tau_in (a := pcFrom c.piv v) (b := pcTo c.piv c.vals.length v) hb.1 hin q
 have hlt : ∀ q, q < c.vals.length → tau new q < c.vals.length := fun q hq => by
  by_cases h1 : pcFrom c.piv v ≤ (q : Int) ∧ (q : Int) < pcTo c.piv c.vals.length v
  ·have := (htau q).1 h1; omega
  ·rw [(htau q).2 h1]; exact hq
 have hva := fun q => swps_at new c.vals hin0 q
 have hra := fun q => swps_at new c.rows (by rw [ho.rl]; exact hin0) q
 have hvl : (swaped c new).vals.length = c.vals.length := swps_len _ _
 -- the pivots that stand: on which side of the piece
 have hside : ∀ p ∈ c.piv, (p.1 < v ∧ p.2 ≤ pcFrom c.piv v) ∨ (v < p.1 ∧ pcTo c.piv c.vals.length v ≤ p.2) := fun p hpm => by
  obtain ⟨j, hj, rfl⟩ := List.mem_iff_getElem.1 hpm
  have hjs := List.getElem?_eq_getElem hj
  rcases Nat.lt_or_ge j (geIx c.piv v) with h1 | h1
  ·refine .inl ⟨geIx_below h1 hjs, ?_⟩
   rw [hfa]
   obtain ⟨q, hq⟩ := at_lt (l := c.piv) (k := geIx c.piv v - 1) (by have := geIx_le c.piv v; omega)
   have e : aOf c.piv (geIx c.piv v) = q.2 := by
    have := aOf_step hq
    rwa [show geIx c.piv v - 1 + 1 = geIx c.piv v by omega] at this
   rw [e]
   rcases Nat.lt_or_ge j (geIx c.piv v - 1) with h2 | h2
   ·exact (ho.so _ _ _ _ h2 hjs hq).2
   ·have e2 : j = geIx c.piv v - 1 := by omega
    rw [← e2, hjs] at hq
    rw [Option.some.inj hq]
    exact Int.le_refl _
  ·obtain ⟨q, hq⟩ := at_lt (l := c.piv) (k := geIx c.piv v) (by omega)
   have hq1 := geIx_here hq
   have hq2 := isPv_no hp q (List.mem_of_getElem? hq)
   have e : pcTo c.piv c.vals.length v = q.2 := by rw [pcTo, zOf_at hq]
   rw [e]
   rcases Nat.lt_or_ge (geIx c.piv v) j with h2 | h2
   ·have := ho.so _ _ _ _ h2 hq hjs
    exact .inr ⟨by omega, this.2⟩
   ·have e2 : geIx c.piv v = j := by omega
    rw [e2, hjs] at hq
    rw [Option.some.inj hq]
    exact .inr ⟨by omega, Int.le_refl _⟩
 have hOk : CrkOk (swaped c new) := by
  refine ⟨by rw [hvl]; exact ho.vl, fun q hq => ?_, ?_, fun q hq => ?_, fun q r hq hr e => ?_, fun p hpm => ?_, ho.so⟩
  ·rw [hvl] at hq
   show -999 ≤ (swps c.vals new).getD q 0 ∧ (swps c.vals new).getD q 0 ≤ 999
   rw [hva]; exact ho.vr _ (hlt q hq)
  ·show (swps c.rows new).length = (swps c.vals new).length
   rw [swps_len, swps_len]; exact ho.rl
  ·rw [hvl] at hq
   show 0 ≤ (swps c.rows new).getD q 0 ∧ (swps c.rows new).getD q 0 ≤ 999
   rw [hra]; exact ho.rr _ (hlt q hq)
  ·rw [hvl] at hq hr
   have e' : (swps c.rows new).getD q 0 = (swps c.rows new).getD r 0 := e
   rw [hra, hra] at e'
   exact tau_inj (ho.ri _ _ (hlt q hq) (hlt r hr) e')
  ·have h1 := ho.pv p hpm
   refine ⟨h1.1, h1.2.1, h1.2.2.1, by rw [hvl]; exact h1.2.2.2.1, fun q hq => ?_⟩
   rw [hvl] at hq
   show (swps c.vals new).getD q 0 < p.1 ↔ _
   rw [hva, h1.2.2.2.2 _ (hlt q hq)]
   by_cases h2 : pcFrom c.piv v ≤ (q : Int) ∧ (q : Int) < pcTo c.piv c.vals.length v
   ·have := (htau q).1 h2
    rcases hside p hpm with h3 | h3 <;> omega
   ·rw [(htau q).2 h2]
 refine ⟨at_, rfl, by omega, by omega, hin, by dsimp only; omega, (crk_iff _).2 hOk, (crk_iff _).2 ?_⟩
 refine ⟨hOk.vl, hOk.vr, hOk.rl, hOk.rr, hOk.ri, fun p hpm => ?_, fun i j p q hij hpi hqj => ?_⟩
 ·rcases insPv_mem hpm with rfl | hpm
  ·refine ⟨hpv.1, hpv.2, by dsimp only; omega, by show (at_ : Int) ≤ ((swaped c new).vals.length : Int); rw [hvl]; omega, fun q hq => ?_⟩
   have hq' : q < c.vals.length := by have : q < (swaped c new).vals.length := hq; rwa [hvl] at this
   show (swps c.vals new).getD q 0 < v ↔ (q : Int) < (at_ : Int)
   by_cases h2 : pcFrom c.piv v ≤ (q : Int) ∧ (q : Int) < pcTo c.piv c.vals.length v
   ·rcases Nat.lt_or_ge q at_ with h3 | h3
    ·have := k6 q (by omega) h3; omega
    ·have := k7 q h3 (by omega); omega
   ·rw [hva, (htau q).2 h2]
    rcases Int.lt_or_le (q : Int) (pcFrom c.piv v) with h3 | h3
    ·-- ahead of the piece
     have hg : 0 < geIx c.piv v := by
      rcases Nat.eq_zero_or_pos (geIx c.piv v) with h0 | h0
      ·rw [hfa, h0] at h3; simp [aOf] at h3; omega
      ·exact h0
     obtain ⟨r, hr⟩ := at_lt (l := c.piv) (k := geIx c.piv v - 1) (by have := geIx_le c.piv v; omega)
     have e : pcFrom c.piv v = r.2 := by
      rw [hfa]
      have := aOf_step hr
      rwa [show geIx c.piv v - 1 + 1 = geIx c.piv v by omega] at this
     have h4 := (ho.pv r (List.mem_of_getElem? hr)).2.2.2.2 q hq'
     have h5 := geIx_below (v := v) (j := geIx c.piv v - 1) (by omega) hr
     omega
    ·-- behind it
     have hg : geIx c.piv v < c.piv.length := by
      rcases Nat.lt_or_ge (geIx c.piv v) c.piv.length with h0 | h0
      ·exact h0
      ·have : pcTo c.piv c.vals.length v = c.vals.length := by rw [pcTo, zOf, if_neg (by omega)]
       omega
     obtain ⟨r, hr⟩ := at_lt hg
     have e : pcTo c.piv c.vals.length v = r.2 := by rw [pcTo, zOf_at hr]
     have h4 := (ho.pv r (List.mem_of_getElem? hr)).2.2.2.2 q hq'
     have h5 := geIx_here hr
     omega
  ·exact hOk.pv p hpm
 ·have hpi' : (insPv c.piv (v, (at_ : Int)))[i]? = some p := hpi
  have hqj' : (insPv c.piv (v, (at_ : Int)))[j]? = some q := hqj
  rw [insPv_at] at hpi' hqj'
  simp only [hcg] at hpi' hqj'
  by_cases hi1 : i < geIx c.piv v
  ·rw [if_pos hi1] at hpi'
   have hpl := geIx_below hi1 hpi'
   have hps := hside p (List.mem_of_getElem? hpi')
   by_cases hj1 : j < geIx c.piv v
   ·rw [if_pos hj1] at hqj'
    exact ho.so i j p q hij hpi' hqj'
   ·rw [if_neg hj1] at hqj'
    by_cases hj2 : j = geIx c.piv v
    ·rw [if_pos hj2] at hqj'
     obtain rfl := Option.some.inj hqj'
     exact ⟨hpl, by dsimp only; omega⟩
    ·rw [if_neg hj2] at hqj'
     exact ho.so i (j - 1) p q (by omega) hpi' hqj'
  ·rw [if_neg hi1] at hpi'
   by_cases hi2 : i = geIx c.piv v
   ·rw [if_pos hi2] at hpi'
    obtain rfl := Option.some.inj hpi'
    rw [if_neg (by omega), if_neg (by omega)] at hqj'
    have hqs := hside q (List.mem_of_getElem? hqj')
    have hqg : v ≤ q.1 := by
     obtain ⟨r, hr⟩ := at_lt (l := c.piv) (k := geIx c.piv v) (by
      rcases Nat.lt_or_ge (j - 1) c.piv.length with h' | h'
      ·omega
      ·rw [List.getElem?_eq_none h'] at hqj'; cases hqj')
     have h5 := geIx_here hr
     rcases Nat.lt_or_ge (geIx c.piv v) (j - 1) with h6 | h6
     ·have := ho.so _ _ _ _ h6 hr hqj'; omega
     ·have : j - 1 = geIx c.piv v := by omega
      rw [this, hr] at hqj'
      rw [← Option.some.inj hqj']; exact h5
    dsimp only
    omega
   ·rw [if_neg hi2] at hpi'
    rw [if_neg (by omega), if_neg (by omega)] at hqj'
    exact ho.so (i - 1) (j - 1) p q (by omega) hpi' hqj'

end Go.Proofs.YthnadkagchbhbaaGreat.E
