/- Walks through functions, by program out of the session's annotations. -/
import Derived.Test.YtkaikajjhhnifaaA11
namespace Go.Proofs.Ytkaikajjhhnifaa.E
open Go Go.RowKit Go.Proofs
set_option linter.unusedVariables false
set_option linter.unusedSimpArgs false

def cmpI (a b : Int) : Int := if a < b then -1 else if a > b then 1 else 0
def orI : List Int → Int
  | [] => 0
  | x :: t => if x ≠ 0 then x else orI t
theorem orI_at : ∀ {xs : List Int} {k : Nat} {x : Int}, (∀ y ∈ xs.take k, y = 0) → xs[k]? = some x → x ≠ 0 → orI xs = x
  | [], k, x, _, h, _ => by simp at h
  | a :: t, 0, x, _, h, hx => by
    obtain rfl : a = x := by simpa using h
    simp [orI, hx]
  | a :: t, k + 1, x, h0, h, hx => by
    have ha : a = 0 := h0 a (by simp)
    subst ha
    simp only [orI, ne_eq, not_true, if_false]
    exact orI_at (k := k) (fun y hy => h0 y (by simp [hy])) (by simpa using h) hx
theorem orI_none : ∀ {xs : List Int}, (∀ y ∈ xs, y = 0) → orI xs = 0
  | [], _ => rfl
  | a :: t, h => by
    have ha : a = 0 := h a (by simp)
    subst ha
    simp only [orI, ne_eq, not_true, if_false]
    exact orI_none fun y hy => h y (by simp [hy])
theorem zero_step {xs : List Int} {k : Nat} {x : Int} (h : ∀ y ∈ xs.take k, y = 0) (hx : xs[k]? = some x) (h0 : x = 0) : ∀ y ∈ xs.take (k + 1), y = 0 := by
  intro y hy
  rw [List.take_add_one, hx] at hy
  rcases List.mem_append.1 hy with hy | hy
  · exact h y hy
  · have : y = x := by simpa using hy
    omega
def cmpE (x y : Int × Int) : Int := orI [cmpI x.1 y.1, cmpI x.2 y.2]
theorem cmpE_neg (x y : Int × Int) : cmpE x y < 0 ↔ (x.1 < y.1 ∨ (x.1 = y.1 ∧ x.2 < y.2)) := by
  simp only [cmpE, orI, cmpI]
  split <;> split <;> (try split) <;> (try split) <;> (try split) <;> simp_all <;> omega
def okAt (xs : List (Int × Int)) (i : Nat) : Bool := !decide (cmpE (xs.getD i (0, 0)) (xs.getD (i - 1) (0, 0)) < 0)
theorem okAt_at {xs : List (Int × Int)} {i : Nat} {x y : Int × Int} (hx : xs[i]? = some x) (hy : xs[i - 1]? = some y) : okAt xs i = !decide (cmpE x y < 0) := by rw [okAt, getD_of hx, getD_of hy]
def srtL (xs : List (Int × Int)) : Bool := allK (fun k => okAt xs (k + 1)) (xs.length - 1)
theorem allK_congr {p q : Nat → Bool} {n : Nat} (h : ∀ k, k < n → p k = q k) : allK p n = allK q n := by
  rw [Bool.eq_iff_iff, allK_iff, allK_iff]
  exact ⟨fun g k hk => by rw [← h k hk]; exact g k hk, fun g k hk => by rw [h k hk]; exact g k hk⟩
theorem srtL_yes {xs : List (Int × Int)} (h : ∀ i, 0 < i → i < xs.length → okAt xs i = true) : srtL xs = true := allK_iff.2 fun k hk => h (k + 1) (by omega) (by omega)
theorem srtL_no {xs : List (Int × Int)} {i : Nat} (h0 : 0 < i) (hi : i < xs.length) (h : okAt xs i = false) : srtL xs = false := allK_not (k := i - 1) (by rw [show i - 1 + 1 = i by omega]; exact h) (by omega)
/-- The elements from a on. -/
def elI (c : Crk) (i : Int) : Int × Int := (c.vals.getD i.toNat 0, c.rows.getD i.toNat 0)
def elemsN (c : Crk) (a : Int) : Nat → List (Int × Int)
  | 0 => []
  | n + 1 => elemsN c a n ++ [elI c (a + n)]
theorem elemsN_len (c : Crk) (a : Int) : ∀ n, (elemsN c a n).length = n
  | 0 => rfl
  | n + 1 => by simp [elemsN, elemsN_len c a n]
theorem elemsN_at (c : Crk) (a : Int) : ∀ (n k : Nat), k < n → (elemsN c a n)[k]? = some (elI c (a + k))
  | n + 1, k, h => by
    unfold elemsN
    rcases Nat.lt_or_ge k n with h' | h'
    · rw [List.getElem?_append_left (by rw [elemsN_len]; exact h')]; exact elemsN_at c a n k h'
    · have : k = n := by omega
      subst this
      rw [List.getElem?_append_right (by rw [elemsN_len]; omega), elemsN_len]; simp
def srt (c : Crk) (a b : Int) : Bool := srtL (elemsN c a (b - a).toNat)
theorem srt_eq (c : Crk) (a b : Int) : srt c a b = allK (fun k => !decide (cmpE (elI c (a + 1 + k)) (elI c (a + 1 + k - 1)) < 0)) ((b - a).toNat - 1) := by
  unfold srt srtL
  rw [elemsN_len]
  refine allK_congr fun k hk => ?_
  rw [okAt_at (elemsN_at c a _ (k + 1) (by omega)) (elemsN_at c a _ (k + 1 - 1) (by omega))]
  rw [show a + ((k + 1 : Nat) : Int) = a + 1 + k by omega, show a + ((k + 1 - 1 : Nat) : Int) = a + 1 + k - 1 by omega]
def cutIx (l : List (Int × Int)) (v : Int) : Nat := l.findIdx fun p => decide (v < p.1)
def aOf (l : List (Int × Int)) (k : Nat) : Int := if k = 0 then 0 else (l.getD (k - 1) (0, 0)).2
def zOf (l : List (Int × Int)) (n : Int) (k : Nat) : Int := if k < l.length then (l.getD k (0, 0)).2 else n
theorem cutIx_le (l : List (Int × Int)) (v : Int) : cutIx l v ≤ l.length := List.findIdx_le_length
theorem cutIx_at {l : List (Int × Int)} {v : Int} {k : Nat} {p : Int × Int} (h : ∀ q ∈ l.take k, ¬ v < q.1) (hp : l[k]? = some p) (hv : v < p.1) : cutIx l v = k := by
  have hk : k < l.length := by
    rcases Nat.lt_or_ge k l.length with h' | h'
    · exact h'
    · rw [List.getElem?_eq_none h'] at hp; cases hp
  unfold cutIx
  rw [List.findIdx_eq hk]
  refine ⟨by rw [List.getElem?_eq_getElem hk] at hp; rw [Option.some.inj hp]; simpa using hv, fun j hj => ?_⟩
  have := h l[j] (List.mem_of_getElem? (i := j) (by rw [List.getElem?_take, if_pos hj]; exact List.getElem?_eq_getElem (by omega)))
  simpa using this
theorem cutIx_none {l : List (Int × Int)} {v : Int} (h : ∀ q ∈ l, ¬ v < q.1) : cutIx l v = l.length := by
  unfold cutIx
  rw [List.findIdx_eq_length]
  intro q hq
  simpa using h q hq
theorem below_step {l : List (Int × Int)} {v : Int} {k : Nat} {p : Int × Int} (h : ∀ q ∈ l.take k, ¬ v < q.1) (hp : l[k]? = some p) (hv : ¬ v < p.1) : ∀ q ∈ l.take (k + 1), ¬ v < q.1 := by
  intro q hq
  rw [List.take_add_one, hp] at hq
  rcases List.mem_append.1 hq with hq | hq
  · exact h q hq
  · have : q = p := by simpa using hq
    rw [this]; exact hv
theorem aOf_step {l : List (Int × Int)} {k : Nat} {p : Int × Int} (hp : l[k]? = some p) : aOf l (k + 1) = p.2 := by
  rw [aOf, if_neg (by omega), Nat.add_sub_cancel, getD_of hp]
theorem zOf_at {l : List (Int × Int)} {n : Int} {k : Nat} {p : Int × Int} (hp : l[k]? = some p) : zOf l n k = p.2 := by
  have hk : k < l.length := by
    rcases Nat.lt_or_ge k l.length with h' | h'
    · exact h'
    · rw [List.getElem?_eq_none h'] at hp; cases hp
  rw [zOf, if_pos hk, getD_of hp]
theorem zOf_end (l : List (Int × Int)) (n : Int) : zOf l n l.length = n := by simp [zOf]
/-- Pivots as a column has them: what follows of it. -/
theorem piv_parts {c : Crk} (h : isCrk c = true) {k : Nat} {p : Int × Int} (hp : c.piv[k]? = some p) : 0 ≤ p.2 ∧ p.2 ≤ c.vals.length ∧ ∀ q, 0 < k → c.piv[k - 1]? = some q → q.1 < p.1 ∧ q.2 ≤ p.2 := by
  have hk : k < c.piv.length := by
    rcases Nat.lt_or_ge k c.piv.length with h' | h'
    · exact h'
    · rw [List.getElem?_eq_none h'] at hp; cases hp
  simp only [isCrk, Bool.and_eq_true] at h
  have h1 := allK_at h.2 hk
  rw [pivP, getD_of hp] at h1
  simp only [pivQ, isIn, Bool.and_eq_true, Bool.or_eq_true, decide_eq_true_eq] at h1
  refine ⟨by omega, by omega, fun q h0 hq => ?_⟩
  rw [getD_of hq] at h1
  omega
theorem crk_lens {c : Crk} (h : isCrk c = true) : c.vals.length ≤ 64 ∧ c.rows.length = c.vals.length ∧ c.piv.length ≤ 2001 := by
  refine ⟨?_, ?_, ?_⟩
  · simp only [isCrk, Bool.and_eq_true] at h
    exact (areVals_parts h.1.1.1).1
  · simp only [isCrk, Bool.and_eq_true, decide_eq_true_eq] at h
    exact h.1.1.2
  · rcases Nat.lt_or_ge 2001 c.piv.length with h' | h'
    · rw [crk_many h'] at h; cases h
    · exact h'
theorem at_lt {α : Type} {l : List α} {k : Nat} (h : k < l.length) : ∃ x, l[k]? = some x := ⟨_, List.getElem?_eq_getElem h⟩
theorem cut_bounds {c : Crk} (h : isCrk c = true) {k : Nat} (hk : k ≤ c.piv.length) : 0 ≤ aOf c.piv k ∧ aOf c.piv k ≤ zOf c.piv c.vals.length k ∧ zOf c.piv c.vals.length k ≤ c.vals.length := by
  rcases Nat.eq_zero_or_pos k with rfl | h0
  · rcases Nat.eq_zero_or_pos c.piv.length with e | e
    · rw [show zOf c.piv c.vals.length 0 = c.vals.length by simp [zOf, e]]
      simp [aOf]
    · obtain ⟨p, hp⟩ := at_lt e
      have := piv_parts h hp
      rw [zOf_at hp]
      simp only [aOf, if_true]
      omega
  · obtain ⟨q, hq⟩ := at_lt (l := c.piv) (k := k - 1) (by omega)
    have hq1 := piv_parts h hq
    have ha : aOf c.piv k = q.2 := by
      have := aOf_step hq
      rwa [show k - 1 + 1 = k by omega] at this
    rcases Nat.lt_or_ge k c.piv.length with h' | h'
    · obtain ⟨p, hp⟩ := at_lt h'
      have hp1 := piv_parts h hp
      have := hp1.2.2 q h0 hq
      rw [zOf_at hp, ha]
      omega
    · obtain rfl : k = c.piv.length := by omega
      rw [zOf_end, ha]
      omega
/-- The first pivot above v parts them. -/
theorem piv_sorted {c : Crk} (h : isCrk c = true) {v : Int} : ∀ {k : Nat} {p : Int × Int}, c.piv[k]? = some p → (v < p.1 ↔ cutIx c.piv v ≤ k)
  | k, p, hp => by
    have hk : k < c.piv.length := by
      rcases Nat.lt_or_ge k c.piv.length with h' | h'
      · exact h'
      · rw [List.getElem?_eq_none h'] at hp; cases hp
    have mono : ∀ (j : Nat) (d : Nat) (q r : Int × Int), c.piv[j]? = some q → c.piv[j + d]? = some r → q.1 ≤ r.1 := by
      intro j d
      induction d with
      | zero => intro q r h1 h2; rw [Nat.add_zero, h1] at h2; cases h2; exact Int.le_refl _
      | succ d ih =>
        intro q r h1 h2
        have hjd : j + d < c.piv.length := by
          rcases Nat.lt_or_ge (j + d) c.piv.length with h' | h'
          · exact h'
          · rw [List.getElem?_eq_none (by omega)] at h2; cases h2
        obtain ⟨m, hm⟩ := at_lt hjd
        have e1 := ih q m h1 hm
        have e2 := (piv_parts h h2).2.2 m (by omega) (by rw [show j + (d + 1) - 1 = j + d by omega]; exact hm)
        omega
    constructor
    · intro hv
      rcases Nat.lt_or_ge k (cutIx c.piv v) with h' | h'
      · have := List.not_of_lt_findIdx (p := fun p : Int × Int => decide (v < p.1)) (xs := c.piv) h'
        rw [List.getElem?_eq_getElem hk] at hp
        rw [Option.some.inj hp] at this
        simp at this
        omega
      · exact h'
    · intro hc
      have hlt : cutIx c.piv v < c.piv.length := by omega
      have := List.findIdx_getElem (p := fun p : Int × Int => decide (v < p.1)) (xs := c.piv) (w := hlt)
      have h1 := mono (cutIx c.piv v) (k - cutIx c.piv v) _ p (List.getElem?_eq_getElem hlt) (by rw [show cutIx c.piv v + (k - cutIx c.piv v) = k by omega]; exact hp)
      have h2 : v < (c.piv[cutIx c.piv v]).1 := of_decide_eq_true this
      omega

set_option maxRecDepth 20000 in
set_option maxHeartbeats 2000000 in
theorem c_cmp_isNaN_int_ (x : Int) : EFn Try.prog 192 [.c (.sc (.int .i64 x))] [] (fun r S => r = .c (.sc (.bool false)) ∧ S = []) := by
  refine E_fn Try.func192 rfl (Nat.le_of_ble_eq_true rfl) ?_
  refine E_seq ?_
  refine E_region' (L := [0]) rfl ?_
  refine x_pure rfl rfl rfl (L_assign rfl) ?_
  refine EOps_nil ?_
  refine E_seq ?_
  refine E_region' (L := [0, 1, 2, 3]) rfl ?_
  refine x_pure rfl rfl rfl (L_move rfl) ?_
  refine x_pure rfl rfl rfl (L_move rfl) ?_
  refine x_pure rfl rfl rfl (L_bin rfl rfl rfl rfl) ?_
  refine x_pure rfl rfl rfl (L_assign rfl) ?_
  refine EOps_nil ?_
  refine E_ret ?_
  refine ⟨_, [], rfl, rfl, bool_eq ?_, rfl⟩
  simp

set_option maxRecDepth 20000 in
set_option maxHeartbeats 2000000 in
theorem c_cmp_Compare_int_ (x y : Int) : EFn Try.prog 165 [.c (.sc (.int .i64 x)), .c (.sc (.int .i64 y))] [] (fun r S => r = .c (.sc (.int .i64 (cmpI x y))) ∧ S = []) := by
  refine E_fn Try.func165 rfl (Nat.le_of_ble_eq_true rfl) ?_
  refine E_seq ?_
  refine E_region' (L := [0]) rfl ?_
  refine x_pure rfl rfl rfl (L_assign rfl) ?_
  refine EOps_nil ?_
  refine E_seq ?_
  refine e_tidy [0, 1, 4] ?_
  refine E_region' (L := [0, 1, 2]) rfl ?_
  refine x_pure rfl rfl rfl (L_move rfl) ?_
  refine x_call rfl rfl rfl rfl rfl ca_192 (c_cmp_isNaN_int_ x) ?_
  rintro r S ⟨rfl, rfl⟩
  refine x_pure rfl rfl rfl (L_assign rfl) ?_
  refine EOps_nil ?_
  refine E_seq ?_
  refine e_tidy [0, 1, 4, 5] ?_
  refine E_region' (L := [0, 1, 2]) rfl ?_
  refine x_pure rfl rfl rfl (L_move rfl) ?_
  refine x_call rfl rfl rfl rfl rfl ca_192 (c_cmp_isNaN_int_ y) ?_
  rintro r S ⟨rfl, rfl⟩
  refine x_pure rfl rfl rfl (L_assign rfl) ?_
  refine EOps_nil ?_
  refine E_seq ?_
  refine E_seq ?_
  refine E_region' (L := [0]) rfl ?_
  refine x_pure rfl rfl rfl (L_move rfl) ?_
  refine EOps_nil ?_
  refine E_cond rfl (fun hc11 => ?_) (fun hc11 => ?_)
  · cases hc11
  · refine E_skip ?_
    refine E_seq ?_
    refine E_seq ?_
    refine E_region' (L := [0]) rfl ?_
    refine x_pure rfl rfl rfl (L_move rfl) ?_
    refine EOps_nil ?_
    refine E_cond rfl (fun hc13 => ?_) (fun hc13 => ?_)
    · cases hc13
    · refine E_skip ?_
      refine E_seq ?_
      refine E_seq ?_
      refine E_region' (L := [0, 1, 2]) rfl ?_
      refine x_pure rfl rfl rfl (L_move rfl) ?_
      refine x_pure rfl rfl rfl (L_move rfl) ?_
      refine x_pure rfl rfl rfl (L_bin rfl rfl rfl rfl) ?_
      refine EOps_nil ?_
      refine E_cond rfl (fun hc16 => ?_) (fun hc16 => ?_)
      · refine E_seq ?_
        refine E_region' (L := [0]) rfl ?_
        refine x_pure rfl rfl rfl (L_assign rfl) ?_
        refine EOps_nil ?_
        refine E_ret ?_
        refine ⟨_, [], rfl, rfl, int_eq ?_, rfl⟩
        simp_all [cmpI] <;> omega
      · refine E_skip ?_
        refine E_seq ?_
        refine E_seq ?_
        refine E_region' (L := [0, 1, 2]) rfl ?_
        refine x_pure rfl rfl rfl (L_move rfl) ?_
        refine x_pure rfl rfl rfl (L_move rfl) ?_
        refine x_pure rfl rfl rfl (L_bin rfl rfl rfl rfl) ?_
        refine EOps_nil ?_
        refine E_cond rfl (fun hc19 => ?_) (fun hc19 => ?_)
        · refine E_seq ?_
          refine E_region' (L := [0]) rfl ?_
          refine x_pure rfl rfl rfl (L_assign rfl) ?_
          refine EOps_nil ?_
          refine E_ret ?_
          refine ⟨_, [], rfl, rfl, int_eq ?_, rfl⟩
          simp_all [cmpI] <;> omega
        · refine E_skip ?_
          refine E_seq ?_
          refine E_region' (L := [0]) rfl ?_
          refine x_pure rfl rfl rfl (L_assign rfl) ?_
          refine EOps_nil ?_
          refine E_ret ?_
          refine ⟨_, [], rfl, rfl, int_eq ?_, rfl⟩
          simp_all [cmpI] <;> omega

end Go.Proofs.Ytkaikajjhhnifaa.E
