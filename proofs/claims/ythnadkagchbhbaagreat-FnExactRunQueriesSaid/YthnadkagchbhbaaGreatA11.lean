/- Walks through functions, by program out of the session's annotations. -/
import Derived.Test.YthnadkagchbhbaaGreatA06
import Derived.Test.YthnadkagchbhbaaGreatA03
namespace Go.Proofs.YthnadkagchbhbaaGreat.E
open Go Go.RowKit Go.Proofs
set_option linter.unusedVariables false
set_option linter.unusedSimpArgs false

/-- All numbers below n pass. -/
def allK (p : Nat → Bool) : Nat → Bool
 | 0 => true
 | n + 1 => allK p n && p n
theorem allK_step {p : Nat → Bool} {n : Nat} (h : allK p n = true) (hp : p n = true) : allK p (n + 1) = true := by simp [allK, h, hp]
theorem allK_not {p : Nat → Bool} {k : Nat} (hp : p k = false) : ∀ {n : Nat}, k < n → allK p n = false
 | n + 1, hk => by
  rcases Nat.lt_or_ge k n with h | h
  ·simp [allK, allK_not hp h]
  ·obtain rfl : k = n := by omega
   simp [allK, hp]
theorem allK_at {p : Nat → Bool} {k : Nat} : ∀ {n : Nat}, allK p n = true → k < n → p k = true
 | n + 1, h, hk => by
  simp only [allK, Bool.and_eq_true] at h
  rcases Nat.lt_or_ge k n with h' | h'
  ·exact allK_at h.1 h'
  ·obtain rfl : k = n := by omega
   exact h.2
theorem allK_iff {p : Nat → Bool} {n : Nat} : allK p n = true ↔ ∀ k, k < n → p k = true :=
 ⟨fun h k hk => allK_at h hk, fun h => by
  induction n with
  | zero => rfl
  | succ n ih => exact allK_step (ih fun k hk => h k (by omega)) (h n (by omega))⟩
theorem getD_of {α : Type} {l : List α} {k : Nat} {x d : α} (h : l[k]? = some x) : l.getD k d = x := by simp [List.getD_eq_getElem?_getD, h]
def dupP (rows : List Int) (k : Nat) : Bool := !decide (rows.getD k 0 ∈ rows.take k)
def rowP (rows : List Int) (k : Nat) : Bool := isIn (rows.getD k 0) 0 999 && dupP rows k
def sideP (vals : List Int) (p : Int × Int) (i : Nat) : Bool := decide (vals.getD i 0 < p.1) == decide ((i : Int) < p.2)
def pivQ (vals : List Int) (p q : Int × Int) (k : Nat) : Bool :=
 isIn p.1 (-1000) 1000 && isIn p.2 0 vals.length && (decide (k = 0) || (decide (q.1 < p.1) && decide (q.2 ≤ p.2))) && allK (sideP vals p) vals.length
def pivP (vals : List Int) (l : List (Int × Int)) (k : Nat) : Bool := pivQ vals (l.getD k (0, 0)) (l.getD (k - 1) (0, 0)) k
/-- Is it a column as it has to be? -/
def isCrk (c : Crk) : Bool := areVals c.vals && decide (c.rows.length = c.vals.length) && allK (rowP c.rows) c.rows.length && allK (pivP c.vals c.piv) c.piv.length
theorem dupP_at {rows : List Int} {k : Nat} {x : Int} (h : rows[k]? = some x) : dupP rows k = !decide (x ∈ rows.take k) := by rw [dupP, getD_of h]
theorem sideP_at {vals : List Int} {p : Int × Int} {i : Nat} {v : Int} (h : vals[i]? = some v) : sideP vals p i = (decide (v < p.1) == decide ((i : Int) < p.2)) := by rw [sideP, getD_of h]
theorem pivP_at {vals : List Int} {l : List (Int × Int)} {k : Nat} {p q : Int × Int} (h : l[k]? = some p) (hq : 0 < k → l[k - 1]? = some q) : pivP vals l k = pivQ vals p q k := by
 rw [pivP, getD_of h]
 rcases Nat.eq_zero_or_pos k with rfl | h0
 ·simp [pivQ]
 ·rw [getD_of (hq h0)]
theorem nq1 {vals : List Int} {p q : Int × Int} {k : Nat} (h : isIn p.1 (-1000) 1000 = false) : pivQ vals p q k = false := by rw [pivQ, h]; rfl
theorem nq2 {vals : List Int} {p q : Int × Int} {k : Nat} (h : ¬ (0 ≤ p.2 ∧ p.2 ≤ (vals.length : Int))) : pivQ vals p q k = false := by
 have : isIn p.2 0 vals.length = false := by simp only [isIn, Bool.and_eq_false_iff, decide_eq_false_iff_not]; omega
 rw [pivQ, this, Bool.and_false]; rfl
theorem nq3 {vals : List Int} {p q : Int × Int} {k : Nat} (h : ¬ (k = 0 ∨ (q.1 < p.1 ∧ q.2 ≤ p.2))) : pivQ vals p q k = false := by
 have : (decide (k = 0) || (decide (q.1 < p.1) && decide (q.2 ≤ p.2))) = false := by simp only [Bool.or_eq_false_iff, Bool.and_eq_false_iff, decide_eq_false_iff_not]; omega
 rw [pivQ, this, Bool.and_false]; rfl
theorem nq4 {vals : List Int} {p q : Int × Int} {k i : Nat} (hi : i < vals.length) (h : sideP vals p i = false) : pivQ vals p q k = false := by rw [pivQ, allK_not h hi, Bool.and_false]
theorem pivQ_yes {vals : List Int} {p q : Int × Int} {k : Nat} (h1 : isIn p.1 (-1000) 1000 = true) (h2 : 0 ≤ p.2 ∧ p.2 ≤ (vals.length : Int)) (h3 : k = 0 ∨ (q.1 < p.1 ∧ q.2 ≤ p.2)) (h4 : allK (sideP vals p) vals.length = true) : pivQ vals p q k = true := by
 have e2 : isIn p.2 0 vals.length = true := by simp only [isIn, Bool.and_eq_true, decide_eq_true_eq]; exact h2
 have e3 : (decide (k = 0) || (decide (q.1 < p.1) && decide (q.2 ≤ p.2))) = true := by simp only [Bool.or_eq_true, Bool.and_eq_true, decide_eq_true_eq]; exact h3
 rw [pivQ, h1, e2, e3, h4]; rfl
theorem bq_no {a b : Bool} (h : (a != b) = true) : (a == b) = false := by cases a <;> cases b <;> simp_all
theorem bq_yes {a b : Bool} (h : (a != b) = false) : (a == b) = true := by cases a <;> cases b <;> simp_all
theorem crk_no_row {c : Crk} {k : Nat} (hk : k < c.rows.length) (h : rowP c.rows k = false) : isCrk c = false := by simp [isCrk, allK_not h hk]
theorem crk_no_dup {c : Crk} {k : Nat} {x : Int} (hk : k < c.rows.length) (hx : c.rows[k]? = some x) (h : x ∈ c.rows.take k) : isCrk c = false := crk_no_row hk (by rw [rowP, dupP_at hx]; simp [h])
theorem crk_no_piv {c : Crk} {k : Nat} (hk : k < c.piv.length) (h : pivP c.vals c.piv k = false) : isCrk c = false := by simp [isCrk, allK_not h hk]
theorem rows_split (rows : List Int) : allK (rowP rows) rows.length = ((rows.all fun x => decide (0 ≤ x) && decide (x ≤ 999)) && allK (dupP rows) rows.length) := by
 rw [Bool.eq_iff_iff, Bool.and_eq_true, allK_iff, allK_iff, List.all_eq_true]
 constructor
 ·intro h
  refine ⟨fun x hx => ?_, fun k hk => ?_⟩
  ·obtain ⟨k, hk, rfl⟩ := List.mem_iff_getElem.1 hx
   have := h k hk
   rw [rowP, getD_of (List.getElem?_eq_getElem hk)] at this
   simp [isIn] at this ⊢; omega
  ·have := h k hk
   rw [rowP, Bool.and_eq_true] at this
   exact this.2
 ·rintro ⟨h1, h2⟩ k hk
  rw [rowP, Bool.and_eq_true]
  refine ⟨?_, h2 k hk⟩
  rw [getD_of (List.getElem?_eq_getElem hk)]
  exact h1 _ (List.getElem_mem hk)
theorem piv_low {vals : List Int} {l : List (Int × Int)} (h : allK (pivP vals l) l.length = true) : ∀ k, k < l.length → (k : Int) - 1000 ≤ (l.getD k (0, 0)).1
 | 0, hk => by
  have := allK_at h hk
  simp only [pivP, pivQ, isIn, Bool.and_eq_true, decide_eq_true_eq] at this
  omega
 | k + 1, hk => by
  have ih := piv_low h k (by omega)
  have := allK_at h hk
  simp only [pivP, pivQ, isIn, Bool.and_eq_true, Bool.or_eq_true, decide_eq_true_eq, Nat.add_sub_cancel] at this
  omega
theorem crk_many {c : Crk} (h : 2001 < c.piv.length) : isCrk c = false := by
 cases hc : isCrk c with
 | false => rfl
 | true =>
  simp only [isCrk, Bool.and_eq_true] at hc
  have h1 := piv_low hc.2 2001 h
  have h2 := allK_at hc.2 h
  simp only [pivP, pivQ, isIn, Bool.and_eq_true, decide_eq_true_eq] at h2
  omega
theorem mem_take_step {xs : List Int} {k : Nat} {x y : Int} (h : ¬ x ∈ xs.take k) (hy : xs[k]? = some y) (hne : ¬ x = y) : ¬ x ∈ xs.take (k + 1) := by
 rw [List.take_add_one, hy]; simp [h, hne]
theorem pred_at {l : List (Int × Int)} {k : Nat} (hk : k < l.length) : ∃ q, 0 < k → l[k - 1]? = some q := by
 rcases Nat.eq_zero_or_pos k with rfl | h0
 ·exact ⟨(0, 0), fun h => absurd h (by omega)⟩
 ·exact ⟨l[k - 1], fun _ => List.getElem?_eq_getElem (by omega)⟩
theorem fIdx_mem (xs : List Int) (x : Int) : decide (fIdx (fun y => decide (x = y)) xs ≥ 0) = decide (x ∈ xs) := by
 unfold fIdx
 rw [Bool.eq_iff_iff, decide_eq_true_eq, decide_eq_true_eq]
 split
 ·rename_i h
  obtain ⟨y, hy, he⟩ := List.any_eq_true.1 h
  have : x = y := by simpa using he
  subst this
  exact ⟨fun _ => hy, fun _ => by omega⟩
 ·rename_i h
  refine ⟨fun h => by omega, fun hm => ?_⟩
  exact absurd (List.any_eq_true.2 ⟨x, hm, by simp⟩) h

set_option maxRecDepth 20000 in
set_option maxHeartbeats 2000000 in
theorem c_slices_Index___int_int_ (xs : List Int) (x : Int) : EFn Tryz.prog 97 [.c (.ro (ints xs)), .c (.sc (.int .i64 x))] [] (fun r S => r = .c (.sc (.int .i64 (fIdx (fun y => decide (x = y)) xs))) ∧ S = []) := by
 refine E_fn Tryz.func97 rfl (Nat.le_of_ble_eq_true rfl) ?_
 refine E_bound (t := 0) (rows := ints xs) rfl fun hb => ?_
 rw [ints_len] at hb
 refine E_seq ?_
 refine E_region' (L := [0]) rfl ?_
 refine xas ?_
 refine EOps_nil ?_
 refine E_seq ?_
 refine E_seq ?_
 refine E_region' (L := [0, 1, 2]) rfl ?_
 refine xmv ?_
 refine x_pure rfl rfl rfl (l_len rfl sl_22) ?_
 refine xmv ?_
 refine EOps_nil ?_
 refine E_block ?_
 refine e_for (α := Nat) [0, 1, 7] (fun k => [(8, .c (.sc (.int .i64 (k)))), (5, .any)]) (fun _ => _) (fun k => k ≤ xs.length ∧ (xs.take k).any (fun y => decide (x = y)) = false) (fun k => xs.length - k) (0) ?_ (rfl) ⟨.inr rfl, .inl rfl, trivial⟩ ?_
 ·simp
 rintro k ⟨hk, hany⟩
 refine E_seq ?_
 refine E_region' (L := [0]) rfl ?_
 refine x_pure rfl rfl rfl (L_bin rfl rfl rfl rfl) ?_
 refine EOps_nil ?_
 refine E_seq ?_
 refine E_cond rfl (fun hc9 => ?_) (fun hc9 => ?_)
 ·have hc9' : k < (xs).length := by simpa [ints_len, bools_len, pairs_len, quads_len, quints_len] using hc9
  obtain ⟨y, hy⟩ : ∃ x, (xs)[k]? = some x := ⟨_, List.getElem?_eq_getElem hc9'⟩
  refine E_skip ?_
  refine E_seq ?_
  refine E_block ?_
  refine E_seq ?_
  refine E_region' (L := [0, 1]) rfl ?_
  refine xmv ?_
  refine xas ?_
  refine EOps_nil ?_
  refine E_seq ?_
  refine E_region' (L := [0, 1, 2, 3, 4, 5]) rfl ?_
  refine xmv ?_
  refine xmv ?_
  refine xmv ?_
  refine x_pure rfl rfl rfl (L_index rfl rfl (by first | exact i_ro sl_22 ty_3 | exact i_sl sl_22 ty_3)) ?_
  refine x_light rfl rfl rfl (L_load rfl (by first | exact d_bp ty_3 | exact ld_rp ty_3 rfl | exact d_ep ty_3)) ?_
  refine x_pure rfl rfl rfl (L_bin rfl rfl rfl rfl) ?_
  refine EOps_nil ?_
  refine E_cond rfl (fun hc16 => ?_) (fun hc16 => ?_)
  ·have he := fIdx_at hany hy hc16
   refine E_seq ?_
   refine E_region' (L := [0, 1]) rfl ?_
   refine xmv ?_
   refine xas ?_
   refine EOps_nil ?_
   refine E_ret ?_
   refine ⟨_, [], rfl, rfl, ?_, rfl⟩
   simp [AV.ren, ren_sc, ren_ro, AC.ren, AC.ren.rens, ix, rv1, E.get, E.ev, E.cv, E.fill', E.fill, E.slotsOf, *]
  ·refine E_skip ?_
   refine E_region' (L := [0, 1]) rfl ?_
   refine x_pure rfl rfl rfl (by first | exact l_add rfl rfl rfl | exact L_bin rfl rfl rfl rfl) ?_
   refine xmv ?_
   refine EOps_nil ?_
   refine ⟨k + 1, ?_, ?_, rfl, ⟨.inr rfl, .inl rfl, trivial⟩, ⟨.inr rfl, .inr rfl, .inr rfl, trivial⟩⟩
   ·first | omega | (dsimp only; omega) | (simp; omega)
   ·exact ⟨by omega, any_take hany hy hc16⟩
 ·have hk' : xs.length ≤ k := by simpa [ints_len] using hc9
  rw [List.take_of_length_le hk'] at hany
  have he := fIdx_none hany
  refine E_exit ?_
  refine E_seq ?_
  refine E_region' (L := [0]) rfl ?_
  refine xas ?_
  refine EOps_nil ?_
  refine E_ret ?_
  refine ⟨_, [], rfl, rfl, ?_, rfl⟩
  simp [AV.ren, ren_sc, ren_ro, AC.ren, AC.ren.rens, ix, rv1, E.get, E.ev, E.cv, E.fill', E.fill, E.slotsOf, *]

set_option maxRecDepth 20000 in
set_option maxHeartbeats 2000000 in
theorem c_slices_Contains___int_int_ (xs : List Int) (x : Int) : EFn Tryz.prog 86 [.c (.ro (ints xs)), .c (.sc (.int .i64 x))] [] (fun r S => r = .c (.sc (.bool (decide (x ∈ xs)))) ∧ S = []) := by
 refine E_fn Tryz.func86 rfl (Nat.le_of_ble_eq_true rfl) ?_
 refine E_seq ?_
 refine E_region' (L := [0]) rfl ?_
 refine xas ?_
 refine EOps_nil ?_
 refine E_seq ?_
 refine E_region' (L := [0, 1, 2, 3, 4]) rfl ?_
 refine xmv ?_
 refine xmv ?_
 refine x_call rfl rfl rfl rfl rfl ca_97 (c_slices_Index___int_int_ xs x) ?_
 rintro r S ⟨rfl, rfl⟩
 refine x_pure rfl rfl rfl (L_bin rfl rfl rfl rfl) ?_
 refine xas ?_
 refine EOps_nil ?_
 refine E_ret ?_
 refine ⟨_, [], rfl, rfl, ?_, rfl⟩
 rw [← fIdx_mem]; rfl

set_option maxRecDepth 20000 in
set_option maxHeartbeats 2000000 in
theorem c_impl_bound (v : Int) : EFn Tryz.prog 87 [.c (.sc (.int .i64 v))] [] (fun r S => r = .c (.sc (.bool (isIn v (-1000) 1000))) ∧ S = []) := by
 refine E_fn Tryz.func87 rfl (Nat.le_of_ble_eq_true rfl) ?_
 refine E_seq ?_
 refine E_region' (L := [0]) rfl ?_
 refine xas ?_
 refine EOps_nil ?_
 refine E_seq ?_
 refine E_region' (L := [0, 1, 2, 3, 4, 5, 6]) rfl ?_
 refine xmv ?_
 refine x_pure rfl rfl rfl (L_bin rfl rfl rfl rfl) ?_
 refine xmv ?_
 refine EOps_split 5 (b := _) rfl (fun hg5 => ?_) (fun hg5 => ?_)
 ·refine xmv ?_
  refine x_pure rfl rfl rfl (L_bin rfl rfl rfl rfl) ?_
  refine x_pure rfl rfl rfl (L_pick rfl rfl) ?_
  refine xas ?_
  refine EOps_nil ?_
  refine E_ret ?_
  refine ⟨_, [], rfl, rfl, bool_eq ?_, rfl⟩
  first | (simp [isIn]; done) | (simp [isIn]; omega) | (simp [isIn]; intros; omega) | (simp [isIn] at *; intros; omega) | simp_all [isIn] | (simp_all [isIn]; omega)
 ·refine x_skip rfl rfl rfl ?_
  refine x_skip rfl rfl rfl ?_
  refine x_pure rfl rfl rfl (L_pick rfl rfl) ?_
  refine xas ?_
  refine EOps_nil ?_
  refine E_ret ?_
  refine ⟨_, [], rfl, rfl, bool_eq ?_, rfl⟩
  first | (simp [isIn]; done) | (simp [isIn]; omega) | (simp [isIn]; intros; omega) | (simp [isIn] at *; intros; omega) | simp_all [isIn] | (simp_all [isIn]; omega)

set_option maxRecDepth 20000 in
set_option maxHeartbeats 2000000 in
theorem c_spec_l4Has (xs : List Int) (x : Int) : EFn Tryz.prog 48 [.c (.ro (ints xs)), .c (.sc (.int .i64 x))] [] (fun r S => r = .c (.sc (.bool (decide (x ∈ xs)))) ∧ S = []) := by
 refine E_fn Tryz.func48 rfl (Nat.le_of_ble_eq_true rfl) ?_
 refine E_bound (t := 0) (rows := ints xs) rfl fun hb => ?_
 rw [ints_len] at hb
 refine E_seq ?_
 refine E_region' (L := [0]) rfl ?_
 refine xas ?_
 refine EOps_nil ?_
 refine E_seq ?_
 refine E_seq ?_
 refine E_region' (L := [0]) rfl ?_
 refine xas ?_
 refine EOps_nil ?_
 refine E_block ?_
 refine e_for (α := Nat) [0, 1] (fun k => [(5, .c (.sc (.int .i64 (k))))]) (fun _ => _) (fun k => k ≤ xs.length ∧ ¬ x ∈ xs.take k) (fun k => xs.length - k) (0) ?_ (rfl) ⟨.inr rfl, trivial⟩ ?_
 ·simp
 rintro k ⟨hk, hany⟩
 refine E_seq ?_
 refine E_seq ?_
 refine E_region' (L := [0, 1, 2, 3]) rfl ?_
 refine xmv ?_
 refine xmv ?_
 refine x_pure rfl rfl rfl (l_len rfl sl_22) ?_
 refine x_pure rfl rfl rfl (L_bin rfl rfl rfl rfl) ?_
 refine EOps_nil ?_
 refine E_cond rfl (fun hc9 => ?_) (fun hc9 => ?_)
 ·have hc9' : k < (xs).length := by simpa [ints_len, bools_len, pairs_len, quads_len, quints_len] using hc9
  obtain ⟨y, hy⟩ : ∃ x, (xs)[k]? = some x := ⟨_, List.getElem?_eq_getElem hc9'⟩
  refine E_skip ?_
  refine E_seq ?_
  refine E_block ?_
  refine E_seq ?_
  refine E_region' (L := [0, 1, 2, 3, 4, 5]) rfl ?_
  refine xmv ?_
  refine xmv ?_
  refine x_pure rfl rfl rfl (L_index rfl rfl (by first | exact i_ro sl_22 ty_3 | exact i_sl sl_22 ty_3)) ?_
  refine x_light rfl rfl rfl (L_load rfl (by first | exact d_bp ty_3 | exact ld_rp ty_3 rfl | exact d_ep ty_3)) ?_
  refine xmv ?_
  refine x_pure rfl rfl rfl (L_bin rfl rfl rfl rfl) ?_
  refine EOps_nil ?_
  refine E_cond rfl (fun hc17 => ?_) (fun hc17 => ?_)
  ·have hf : x ∈ xs := by
    have : y = x := by simpa using hc17
    exact this ▸ List.mem_of_getElem? hy
   refine E_seq ?_
   refine E_region' (L := [0]) rfl ?_
   refine xas ?_
   refine EOps_nil ?_
   refine E_ret ?_
   refine ⟨_, [], rfl, rfl, bool_eq ?_, rfl⟩
   simp [hf]
  ·refine E_skip ?_
   refine E_region' (L := [0, 1, 2]) rfl ?_
   refine xmv ?_
   refine x_pure rfl rfl rfl (by first | exact l_add rfl rfl rfl | exact L_bin rfl rfl rfl rfl) ?_
   refine xas ?_
   refine EOps_nil ?_
   refine ⟨k + 1, ?_, ?_, rfl, ⟨.inr rfl, trivial⟩, ⟨.inr rfl, .inr rfl, trivial⟩⟩
   ·first | omega | (dsimp only; omega) | (simp; omega)
   ·exact ⟨by omega, mem_take_step hany hy (fun e => by subst e; simp at hc17)⟩
 ·have hk' : xs.length ≤ k := by simpa [ints_len] using hc9
  rw [List.take_of_length_le hk'] at hany
  have hf := hany
  refine E_exit ?_
  refine E_seq ?_
  refine E_region' (L := [0]) rfl ?_
  refine xas ?_
  refine EOps_nil ?_
  refine E_ret ?_
  refine ⟨_, [], rfl, rfl, bool_eq ?_, rfl⟩
  simp [hf]

set_option maxRecDepth 20000 in
set_option maxHeartbeats 2000000 in
theorem c_impl_IsCracker (c : Crk) : EFn Tryz.prog 73 [.agg (crkC c)] [] (fun r S => r = .c (.sc (.bool (isCrk c))) ∧ S = []) := by
 refine E_fn Tryz.func73 rfl (Nat.le_of_ble_eq_true rfl) ?_
 refine E_G (n := 0) rfl ?_
 refine G_seq ?_
 refine G_region' (L := [0, 1]) rfl ?_
 refine x_box rfl rfl rfl rfl rfl ?_
 refine xas ?_
 refine EOps_nil ?_
 refine G_seq ?_
 refine G_seq ?_
 refine g_tidy [0, 1, 2] ?_
 refine G_region' (L := [0, 1, 2, 3, 4, 5, 6, 7, 8, 9, 10, 11, 12, 13, 14, 15, 16, 17, 18, 19, 20, 21, 22, 23, 24]) rfl ?_
 refine x_pure rfl rfl rfl (l_field rfl fo_29_0) ?_
 refine x_light rfl rfl rfl (L_load rfl (by first | exact d_bp ty_22 | exact ld_rp ty_22 rfl | exact d_ep ty_22)) ?_
 refine x_call rfl rfl rfl rfl rfl ca_41 (c_impl_AreValues c.vals) ?_
 rintro r S ⟨rfl, rfl⟩
 refine x_pure rfl rfl rfl (L_not rfl rfl) ?_
 refine xmv ?_
 refine EOps_split 13 (b := _) rfl (fun hg13 => ?_) (fun hg13 => ?_)
 ·have hf : isCrk c = false := by simp_all [isCrk]
  refine x_skip rfl rfl rfl ?_
  refine x_skip rfl rfl rfl ?_
  refine x_skip rfl rfl rfl ?_
  refine x_skip rfl rfl rfl ?_
  refine x_skip rfl rfl rfl ?_
  refine x_skip rfl rfl rfl ?_
  refine x_skip rfl rfl rfl ?_
  refine x_pure rfl rfl rfl (L_pick rfl rfl) ?_
  refine xmv ?_
  refine x_skip rfl rfl rfl ?_
  refine x_skip rfl rfl rfl ?_
  refine x_skip rfl rfl rfl ?_
  refine x_skip rfl rfl rfl ?_
  refine x_pure rfl rfl rfl (L_pick rfl rfl) ?_
  refine xmv ?_
  refine x_skip rfl rfl rfl ?_
  refine x_skip rfl rfl rfl ?_
  refine x_skip rfl rfl rfl ?_
  refine x_skip rfl rfl rfl ?_
  refine x_pure rfl rfl rfl (L_pick rfl rfl) ?_
  refine EOps_nil ?_
  refine G_cond rfl (fun hc33 => ?_) (fun hc33 => ?_)
  ·have hf : isCrk c = false := by first | assumption | exact crk_many (by simp [pairs_len] at hc33; omega)
   refine G_seq ?_
   refine G_region' (L := [0]) rfl ?_
   refine xas ?_
   refine EOps_nil ?_
   refine G_ret ?_
   refine ⟨_, [], rfl, rfl, bool_eq ?_, rfl⟩
   simp [hf]
  ·exact Bool.noConfusion (hc33 : true = false)
 ·have hv : areVals c.vals = true := by simpa using hg13
  refine x_pure rfl rfl rfl (l_field rfl fo_29_1) ?_
  refine x_light rfl rfl rfl (L_load rfl (by first | exact d_bp ty_22 | exact ld_rp ty_22 rfl | exact d_ep ty_22)) ?_
  refine x_pure rfl rfl rfl (l_len rfl sl_22) ?_
  refine x_pure rfl rfl rfl (l_field rfl fo_29_0) ?_
  refine x_light rfl rfl rfl (L_load rfl (by first | exact d_bp ty_22 | exact ld_rp ty_22 rfl | exact d_ep ty_22)) ?_
  refine x_pure rfl rfl rfl (l_len rfl sl_22) ?_
  refine x_pure rfl rfl rfl (L_bin rfl rfl rfl rfl) ?_
  refine x_pure rfl rfl rfl (L_pick rfl rfl) ?_
  refine xmv ?_
  refine EOps_split 22 (b := _) rfl (fun hg22 => ?_) (fun hg22 => ?_)
  ·have hne : ¬ c.rows.length = c.vals.length := by simp [ints_len] at hg22; omega
   have hf : isCrk c = false := by simp [isCrk, hne]
   refine x_skip rfl rfl rfl ?_
   refine x_skip rfl rfl rfl ?_
   refine x_skip rfl rfl rfl ?_
   refine x_skip rfl rfl rfl ?_
   refine x_pure rfl rfl rfl (L_pick rfl rfl) ?_
   refine xmv ?_
   refine x_skip rfl rfl rfl ?_
   refine x_skip rfl rfl rfl ?_
   refine x_skip rfl rfl rfl ?_
   refine x_skip rfl rfl rfl ?_
   refine x_pure rfl rfl rfl (L_pick rfl rfl) ?_
   refine EOps_nil ?_
   refine G_cond rfl (fun hc33 => ?_) (fun hc33 => ?_)
   ·have hf : isCrk c = false := by first | assumption | exact crk_many (by simp [pairs_len] at hc33; omega)
    refine G_seq ?_
    refine G_region' (L := [0]) rfl ?_
    refine xas ?_
    refine EOps_nil ?_
    refine G_ret ?_
    refine ⟨_, [], rfl, rfl, bool_eq ?_, rfl⟩
    simp [hf]
   ·exact Bool.noConfusion (hc33 : true = false)
  ·have hrl : c.rows.length = c.vals.length := by simp [ints_len] at hg22; omega
   refine x_pure rfl rfl rfl (l_field rfl fo_29_1) ?_
   refine x_light rfl rfl rfl (L_load rfl (by first | exact d_bp ty_22 | exact ld_rp ty_22 rfl | exact d_ep ty_22)) ?_
   refine x_call rfl rfl rfl rfl rfl ca_53 (c_impl_within c.rows 0 999) ?_
   rintro r S ⟨rfl, rfl⟩
   refine x_pure rfl rfl rfl (L_not rfl rfl) ?_
   refine x_pure rfl rfl rfl (L_pick rfl rfl) ?_
   refine xmv ?_
   refine EOps_split 28 (b := _) rfl (fun hg28 => ?_) (fun hg28 => ?_)
   ·have hw : (c.rows.all fun x => decide (0 ≤ x) && decide (x ≤ 999)) = false := by simpa only [Bool.not_eq_true'] using hg28
    have hf : isCrk c = false := by simp only [isCrk, rows_split, hw, Bool.false_and, Bool.and_false]
    refine x_skip rfl rfl rfl ?_
    refine x_skip rfl rfl rfl ?_
    refine x_skip rfl rfl rfl ?_
    refine x_skip rfl rfl rfl ?_
    refine x_pure rfl rfl rfl (L_pick rfl rfl) ?_
    refine EOps_nil ?_
    refine G_cond rfl (fun hc33 => ?_) (fun hc33 => ?_)
    ·have hf : isCrk c = false := by first | assumption | exact crk_many (by simp [pairs_len] at hc33; omega)
     refine G_seq ?_
     refine G_region' (L := [0]) rfl ?_
     refine xas ?_
     refine EOps_nil ?_
     refine G_ret ?_
     refine ⟨_, [], rfl, rfl, bool_eq ?_, rfl⟩
     simp [hf]
    ·exact Bool.noConfusion (hc33 : true = false)
   ·have hin : (c.rows.all fun x => decide (0 ≤ x) && decide (x ≤ 999)) = true := by simpa using hg28
    refine x_pure rfl rfl rfl (l_field rfl fo_29_2) ?_
    refine x_light rfl rfl rfl (L_load rfl (by first | exact d_bp ty_27 | exact ld_rp ty_27 rfl | exact d_ep ty_27)) ?_
    refine x_pure rfl rfl rfl (l_len rfl sl_27) ?_
    refine x_pure rfl rfl rfl (L_bin rfl rfl rfl rfl) ?_
    refine x_pure rfl rfl rfl (L_pick rfl rfl) ?_
    refine EOps_nil ?_
    refine G_cond rfl (fun hc33 => ?_) (fun hc33 => ?_)
    ·have hf : isCrk c = false := by first | assumption | exact crk_many (by simp [pairs_len] at hc33; omega)
     refine G_seq ?_
     refine G_region' (L := [0]) rfl ?_
     refine xas ?_
     refine EOps_nil ?_
     refine G_ret ?_
     refine ⟨_, [], rfl, rfl, bool_eq ?_, rfl⟩
     simp [hf]
    ·have hpl : c.piv.length ≤ 2001 := by simp [pairs_len] at hc33; omega
     have hvl := (areVals_parts hv).1
     refine G_skip ?_
     refine G_seq ?_
     refine G_seq ?_
     refine G_region' (L := [0, 1, 2, 3]) rfl ?_
     refine x_pure rfl rfl rfl (l_field rfl fo_29_1) ?_
     refine x_light rfl rfl rfl (L_load rfl (by first | exact d_bp ty_22 | exact ld_rp ty_22 rfl | exact d_ep ty_22)) ?_
     refine x_pure rfl rfl rfl (l_len rfl sl_22) ?_
     refine xmv ?_
     refine EOps_nil ?_
     refine G_block ?_
     refine g_for (α := Nat) [0, 1, 33, 35, 36] (fun k => [(37, .c (.sc (.int .i64 (k))))]) (fun _ => _) (fun k => k ≤ c.rows.length ∧ allK (dupP c.rows) k = true) (fun k => c.rows.length - k) (0) ?_ (rfl) ⟨.inr rfl, trivial⟩ ?_
     ·exact ⟨Nat.zero_le _, rfl⟩
     rintro k ⟨hk, hall⟩
     refine G_seq ?_
     refine G_region' (L := [0]) rfl ?_
     refine x_pure rfl rfl rfl (L_bin rfl rfl rfl rfl) ?_
     refine EOps_nil ?_
     refine G_seq ?_
     refine G_cond rfl (fun hc38 => ?_) (fun hc38 => ?_)
     ·have hc38' : k < (c.rows).length := by simpa [ints_len, bools_len, pairs_len, quads_len, quints_len] using hc38
      obtain ⟨x, hx⟩ : ∃ x, (c.rows)[k]? = some x := ⟨_, List.getElem?_eq_getElem hc38'⟩
      refine G_skip ?_
      refine G_seq ?_
      refine G_block ?_
      refine G_seq ?_
      refine G_region' (L := [0, 1, 2, 3, 4]) rfl ?_
      refine xmv ?_
      refine x_pure rfl rfl rfl (L_index rfl rfl (by first | exact i_ro sl_22 ty_3 | exact i_sl sl_22 ty_3)) ?_
      refine x_light rfl rfl rfl (L_load rfl (by first | exact d_bp ty_3 | exact ld_rp ty_3 rfl | exact d_ep ty_3)) ?_
      refine xas ?_
      refine xas ?_
      refine EOps_nil ?_
      refine G_seq ?_
      refine g_tidy [0, 1, 2, 3, 4, 33, 35, 36, 37, 38, 47] ?_
      refine G_region' (L := [0, 1, 2, 3, 4, 5]) rfl ?_
      refine x_pure rfl rfl rfl (l_field rfl fo_29_1) ?_
      refine x_light rfl rfl rfl (L_load rfl (by first | exact d_bp ty_22 | exact ld_rp ty_22 rfl | exact d_ep ty_22)) ?_
      refine xmv ?_
      refine x_pure rfl rfl rfl (Pure.as (by first | exact L_slice_ro (l := 0) (h := k) rfl sl_22 ty_3 rfl rfl rfl (by first | omega | (simp [ints_len, pairs_len, quads_len, quints_len, bools_len]; omega) | (simp [ints_len, pairs_len, quads_len, quints_len, bools_len] at *; omega)) (by first | omega | (simp [ints_len, pairs_len, quads_len, quints_len, bools_len]; omega) | (simp [ints_len, pairs_len, quads_len, quints_len, bools_len] at *; omega)) (by first | exact fun r hr => (ints_row _ r hr).1 | exact fun r hr => (pairs_row _ r hr).1 | exact fun r hr => (quads_row _ r hr).1 | exact fun r hr => (quints_row _ r hr).1 | exact fun r hr => (bools_row _ r hr).1) | exact L_slice_sl (l := 0) (h := k) rfl sl_22 ty_3 rfl (by first | rfl | assumption) (by first | assumption | exact ints_len _ | exact pairs_len _ | exact quads_len _ | exact quints_len _ | exact bools_len _ | (simp [ints_len, bools_len, pairs_len, quads_len, quints_len, part_len, *]; done) | (simp [ints_len, bools_len, pairs_len, quads_len, quints_len]; omega) | rfl) rfl rfl (by first | omega | (simp [ints_len, pairs_len, quads_len, quints_len, bools_len]; omega) | (simp [ints_len, pairs_len, quads_len, quints_len, bools_len] at *; omega)) (by first | omega | (simp [ints_len, pairs_len, quads_len, quints_len, bools_len]; omega) | (simp [ints_len, pairs_len, quads_len, quints_len, bools_len] at *; omega))) (y' := .c (.ro (ints (c.rows.take k)))) (by first | (simp [ints_cut, pairs_cut, bools_cut, ints_take, pairs_take, bools_take]; done) | (simp [ints_cut, pairs_cut, bools_cut, ints_take, pairs_take, bools_take]; rfl))) ?_
      refine xmv ?_
      refine x_call rfl rfl rfl rfl rfl ca_86 (c_slices_Contains___int_int_ (c.rows.take k) x) ?_
      rintro r S ⟨rfl, rfl⟩
      refine EOps_nil ?_
      refine G_cond rfl (fun hc47 => ?_) (fun hc47 => ?_)
      ·have hf := crk_no_dup (c := c) (by omega) hx (of_decide_eq_true hc47)
       refine G_seq ?_
       refine G_region' (L := [0]) rfl ?_
       refine xas ?_
       refine EOps_nil ?_
       refine G_ret ?_
       refine ⟨_, [], rfl, rfl, bool_eq ?_, rfl⟩
       simp [hf]
      ·refine G_skip ?_
       refine G_region' (L := [0, 1]) rfl ?_
       refine x_pure rfl rfl rfl (by first | exact l_add rfl rfl rfl | exact L_bin rfl rfl rfl rfl) ?_
       refine xmv ?_
       refine EOps_nil ?_
       refine ⟨k + 1, ?_, ?_, rfl, ⟨.inr rfl, trivial⟩, ⟨.inr rfl, .inr rfl, .inr rfl, .inr rfl, .inr rfl, trivial⟩⟩
       ·first | omega | (dsimp only; omega) | (simp; omega)
       ·exact ⟨by omega, allK_step hall (by rw [dupP_at hx, hc47]; rfl)⟩
     ·have hrows : allK (dupP c.rows) c.rows.length = true := by
       have : c.rows.length ≤ k := by simpa [ints_len] using hc38
       rwa [show k = c.rows.length by omega] at hall
      refine G_exit ?_
      refine G_seq ?_
      refine G_seq ?_
      refine G_region' (L := [0, 1, 2, 3]) rfl ?_
      refine x_pure rfl rfl rfl (l_field rfl fo_29_2) ?_
      refine x_light rfl rfl rfl (L_load rfl (by first | exact d_bp ty_27 | exact ld_rp ty_27 rfl | exact d_ep ty_27)) ?_
      refine x_pure rfl rfl rfl (l_len rfl sl_27) ?_
      refine xmv ?_
      refine EOps_nil ?_
      refine G_block ?_
      refine g_forD (α := Nat) [0, 1, 3, 4, 33, 35, 36, 37, 38, 47, 50, 51] (fun k => [(52, .c (.sc (.int .i64 (k))))]) (fun _ => _) (fun k => k ≤ c.piv.length ∧ allK (pivP c.vals c.piv) k = true) (fun k => c.piv.length - k) (0) ?_ (rfl) ⟨.inr rfl, trivial⟩ ?_
      ·exact ⟨Nat.zero_le _, rfl⟩
      rintro k ⟨hk, hpiv⟩
      refine G_seq ?_
      refine G_region' (L := [0]) rfl ?_
      refine x_pure rfl rfl rfl (L_bin rfl rfl rfl rfl) ?_
      refine EOps_nil ?_
      refine G_seq ?_
      refine G_cond rfl (fun hc53 => ?_) (fun hc53 => ?_)
      ·have hc53' : k < (c.piv).length := by simpa [ints_len, bools_len, pairs_len, quads_len, quints_len] using hc53
       obtain ⟨p, hp⟩ : ∃ x, (c.piv)[k]? = some x := ⟨_, List.getElem?_eq_getElem hc53'⟩
       obtain ⟨q, hq⟩ := pred_at (l := c.piv) (k := k) (by omega)
       have hP := pivP_at (vals := c.vals) hp hq
       refine G_skip ?_
       refine G_seq ?_
       refine G_block ?_
       refine G_seq ?_
       refine G_region' (L := [0, 1, 2, 3, 4, 5]) rfl ?_
       refine xmv ?_
       refine x_pure rfl rfl rfl (L_index rfl rfl (by first | exact i_ro sl_27 ty_76 | exact i_sl sl_27 ty_76)) ?_
       refine x_light rfl rfl rfl (L_load rfl (by first | exact d_bp ty_76 | exact ld_rp ty_76 rfl | exact d_ep ty_76)) ?_
       refine x_alloc rfl rfl rfl rfl za_76 ?_
       refine xas ?_
       refine EOps_go rfl rfl (EOp_store rfl rfl rfl (by first | exact s_bp ty_76 | exact s_ep ty_76) ?_)
       refine EOps_nil ?_
       refine G_seq ?_
       refine G_seq ?_
       refine g_tidy [0, 1, 2, 3, 4, 5, 6, 7, 8, 33, 35, 36, 37, 38, 47, 50, 51, 52, 53, 101, 103, 104, 105, 106, 118] ?_
       refine G_drawT mixed ?_
       refine t_old 0 rfl rfl rfl (l_field rfl fo_76_0) ?_
       refine t_light 1 rfl rfl rfl (L_load rfl (by first | exact d_bp ty_3 | exact ld_rp ty_3 rfl | exact d_ep ty_3)) ?_
       refine t_call 2 rfl rfl rfl rfl rfl ca_87 (c_impl_bound p.1) ?_
       rintro r S ⟨rfl, rfl⟩
       refine t_old 3 rfl rfl rfl (L_not rfl rfl) ?_
       refine t_old 4 rfl rfl rfl (L_move rfl) ?_
       refine T_split 61 (b := _) rfl rfl (fun hg61 => ?_) (fun hg61 => ?_)
       ·refine t_skip 5 rfl rfl rfl ?_
        refine t_skip 6 rfl rfl rfl ?_
        refine t_skip 7 rfl rfl rfl ?_
        refine t_old 8 rfl rfl rfl (L_pick rfl rfl) ?_
        refine t_old 9 rfl rfl rfl (L_move rfl) ?_
        refine t_skip 10 rfl rfl rfl ?_
        refine t_skip 11 rfl rfl rfl ?_
        refine t_skip 12 rfl rfl rfl ?_
        refine t_skip 13 rfl rfl rfl ?_
        refine t_skip 14 rfl rfl rfl ?_
        refine t_skip 15 rfl rfl rfl ?_
        refine t_old 16 rfl rfl rfl (L_pick rfl rfl) ?_
        refine t_old 17 rfl rfl rfl (L_move rfl) ?_
        refine t_skip 18 rfl rfl rfl ?_
        refine t_skip 19 rfl rfl rfl ?_
        refine t_skip 20 rfl rfl rfl ?_
        refine t_skip 21 rfl rfl rfl ?_
        refine t_skip 22 rfl rfl rfl ?_
        refine t_skip 23 rfl rfl rfl ?_
        refine t_skip 24 rfl rfl rfl ?_
        refine t_skip 25 rfl rfl rfl ?_
        refine t_skip 26 rfl rfl rfl ?_
        refine t_skip 27 rfl rfl rfl ?_
        refine t_skip 28 rfl rfl rfl ?_
        refine t_skip 29 rfl rfl rfl ?_
        refine t_skip 30 rfl rfl rfl ?_
        refine t_skip 31 rfl rfl rfl ?_
        refine t_skip 32 rfl rfl rfl ?_
        refine t_skip 33 rfl rfl rfl ?_
        refine t_skip 34 rfl rfl rfl ?_
        refine t_skip 35 rfl rfl rfl ?_
        refine t_skip 36 rfl rfl rfl ?_
        refine t_skip 37 rfl rfl rfl ?_
        refine t_skip 38 rfl rfl rfl ?_
        refine t_skip 39 rfl rfl rfl ?_
        refine t_skip 40 rfl rfl rfl ?_
        refine t_skip 41 rfl rfl rfl ?_
        refine t_skip 42 rfl rfl rfl ?_
        refine t_skip 43 rfl rfl rfl ?_
        refine t_old 44 rfl rfl rfl (L_pick rfl rfl) ?_
        refine T_done (by kernel_rfl) ?_
        refine G_cond rfl (fun hc101 => ?_) (fun hc101 => ?_)
        ·have hf := crk_no_piv (c := c) (k := k) (by omega) (by
          rw [hP]
          first
           | exact nq1 (by simpa only [Bool.not_eq_true'] using hg61)
           | exact nq2 (by simp at hg66; omega)
           | exact nq2 (by simp [ints_len] at hg74; omega)
           | exact nq3 (by simp at hg88; omega)
           | exact nq3 (by simp at hc101; omega))
         refine G_seq ?_
         refine G_region' (L := [0]) rfl ?_
         refine xas ?_
         refine EOps_nil ?_
         refine G_ret ?_
         refine ⟨_, [], rfl, rfl, bool_eq ?_, rfl⟩
         simp [hf]
        ·exact Bool.noConfusion (hc101 : true = false)
       ·refine t_old 5 rfl rfl rfl (l_field rfl fo_76_1) ?_
        refine t_light 6 rfl rfl rfl (L_load rfl (by first | exact d_bp ty_3 | exact ld_rp ty_3 rfl | exact d_ep ty_3)) ?_
        refine t_old 7 rfl rfl rfl (L_bin rfl rfl rfl rfl) ?_
        refine t_old 8 rfl rfl rfl (L_pick rfl rfl) ?_
        refine t_old 9 rfl rfl rfl (L_move rfl) ?_
        refine T_split 66 (b := _) rfl rfl (fun hg66 => ?_) (fun hg66 => ?_)
        ·refine t_skip 10 rfl rfl rfl ?_
         refine t_skip 11 rfl rfl rfl ?_
         refine t_skip 12 rfl rfl rfl ?_
         refine t_skip 13 rfl rfl rfl ?_
         refine t_skip 14 rfl rfl rfl ?_
         refine t_skip 15 rfl rfl rfl ?_
         refine t_old 16 rfl rfl rfl (L_pick rfl rfl) ?_
         refine t_old 17 rfl rfl rfl (L_move rfl) ?_
         refine t_skip 18 rfl rfl rfl ?_
         refine t_skip 19 rfl rfl rfl ?_
         refine t_skip 20 rfl rfl rfl ?_
         refine t_skip 21 rfl rfl rfl ?_
         refine t_skip 22 rfl rfl rfl ?_
         refine t_skip 23 rfl rfl rfl ?_
         refine t_skip 24 rfl rfl rfl ?_
         refine t_skip 25 rfl rfl rfl ?_
         refine t_skip 26 rfl rfl rfl ?_
         refine t_skip 27 rfl rfl rfl ?_
         refine t_skip 28 rfl rfl rfl ?_
         refine t_skip 29 rfl rfl rfl ?_
         refine t_skip 30 rfl rfl rfl ?_
         refine t_skip 31 rfl rfl rfl ?_
         refine t_skip 32 rfl rfl rfl ?_
         refine t_skip 33 rfl rfl rfl ?_
         refine t_skip 34 rfl rfl rfl ?_
         refine t_skip 35 rfl rfl rfl ?_
         refine t_skip 36 rfl rfl rfl ?_
         refine t_skip 37 rfl rfl rfl ?_
         refine t_skip 38 rfl rfl rfl ?_
         refine t_skip 39 rfl rfl rfl ?_
         refine t_skip 40 rfl rfl rfl ?_
         refine t_skip 41 rfl rfl rfl ?_
         refine t_skip 42 rfl rfl rfl ?_
         refine t_skip 43 rfl rfl rfl ?_
         refine t_old 44 rfl rfl rfl (L_pick rfl rfl) ?_
         refine T_done (by kernel_rfl) ?_
         refine G_cond rfl (fun hc101 => ?_) (fun hc101 => ?_)
         ·have hf := crk_no_piv (c := c) (k := k) (by omega) (by
           rw [hP]
           first
            | exact nq1 (by simpa only [Bool.not_eq_true'] using hg61)
            | exact nq2 (by simp at hg66; omega)
            | exact nq2 (by simp [ints_len] at hg74; omega)
            | exact nq3 (by simp at hg88; omega)
            | exact nq3 (by simp at hc101; omega))
          refine G_seq ?_
          refine G_region' (L := [0]) rfl ?_
          refine xas ?_
          refine EOps_nil ?_
          refine G_ret ?_
          refine ⟨_, [], rfl, rfl, bool_eq ?_, rfl⟩
          simp [hf]
         ·exact Bool.noConfusion (hc101 : true = false)
        ·refine t_old 10 rfl rfl rfl (l_field rfl fo_76_1) ?_
         refine t_light 11 rfl rfl rfl (L_load rfl (by first | exact d_bp ty_3 | exact ld_rp ty_3 rfl | exact d_ep ty_3)) ?_
         refine t_old 12 rfl rfl rfl (l_field rfl fo_29_0) ?_
         refine t_light 13 rfl rfl rfl (L_load rfl (by first | exact d_bp ty_22 | exact ld_rp ty_22 rfl | exact d_ep ty_22)) ?_
         refine t_old 14 rfl rfl rfl (l_len rfl sl_22) ?_
         refine t_old 15 rfl rfl rfl (L_bin rfl rfl rfl rfl) ?_
         refine t_old 16 rfl rfl rfl (L_pick rfl rfl) ?_
         refine t_old 17 rfl rfl rfl (L_move rfl) ?_
         refine T_split 74 (b := _) rfl rfl (fun hg74 => ?_) (fun hg74 => ?_)
         ·refine t_skip 18 rfl rfl rfl ?_
          refine t_skip 19 rfl rfl rfl ?_
          refine t_skip 20 rfl rfl rfl ?_
          refine t_skip 21 rfl rfl rfl ?_
          refine t_skip 22 rfl rfl rfl ?_
          refine t_skip 23 rfl rfl rfl ?_
          refine t_skip 24 rfl rfl rfl ?_
          refine t_skip 25 rfl rfl rfl ?_
          refine t_skip 26 rfl rfl rfl ?_
          refine t_skip 27 rfl rfl rfl ?_
          refine t_skip 28 rfl rfl rfl ?_
          refine t_skip 29 rfl rfl rfl ?_
          refine t_skip 30 rfl rfl rfl ?_
          refine t_skip 31 rfl rfl rfl ?_
          refine t_skip 32 rfl rfl rfl ?_
          refine t_skip 33 rfl rfl rfl ?_
          refine t_skip 34 rfl rfl rfl ?_
          refine t_skip 35 rfl rfl rfl ?_
          refine t_skip 36 rfl rfl rfl ?_
          refine t_skip 37 rfl rfl rfl ?_
          refine t_skip 38 rfl rfl rfl ?_
          refine t_skip 39 rfl rfl rfl ?_
          refine t_skip 40 rfl rfl rfl ?_
          refine t_skip 41 rfl rfl rfl ?_
          refine t_skip 42 rfl rfl rfl ?_
          refine t_skip 43 rfl rfl rfl ?_
          refine t_old 44 rfl rfl rfl (L_pick rfl rfl) ?_
          refine T_done (by kernel_rfl) ?_
          refine G_cond rfl (fun hc101 => ?_) (fun hc101 => ?_)
          ·have hf := crk_no_piv (c := c) (k := k) (by omega) (by
            rw [hP]
            first
             | exact nq1 (by simpa only [Bool.not_eq_true'] using hg61)
             | exact nq2 (by simp at hg66; omega)
             | exact nq2 (by simp [ints_len] at hg74; omega)
             | exact nq3 (by simp at hg88; omega)
             | exact nq3 (by simp at hc101; omega))
           refine G_seq ?_
           refine G_region' (L := [0]) rfl ?_
           refine xas ?_
           refine EOps_nil ?_
           refine G_ret ?_
           refine ⟨_, [], rfl, rfl, bool_eq ?_, rfl⟩
           simp [hf]
          ·exact Bool.noConfusion (hc101 : true = false)
         ·refine t_old 18 rfl rfl rfl (L_move rfl) ?_
          refine t_old 19 rfl rfl rfl (L_bin rfl rfl rfl rfl) ?_
          refine t_old 20 rfl rfl rfl (L_move rfl) ?_
          refine T_split 77 (b := _) rfl rfl (fun hg77 => ?_) (fun hg77 => ?_)
          ·have hk0 : 0 < k := by simpa using hg77
           have hq' : c.piv[((k : Int) - 1).toNat]? = some q := by rw [show ((k : Int) - 1).toNat = k - 1 by omega]; exact hq hk0
           refine t_old 21 rfl rfl rfl (l_field rfl fo_76_0) ?_
           refine t_light 22 rfl rfl rfl (L_load rfl (by first | exact d_bp ty_3 | exact ld_rp ty_3 rfl | exact d_ep ty_3)) ?_
           refine t_old 23 rfl rfl rfl (l_field rfl fo_29_2) ?_
           refine t_light 24 rfl rfl rfl (L_load rfl (by first | exact d_bp ty_27 | exact ld_rp ty_27 rfl | exact d_ep ty_27)) ?_
           refine t_old 25 rfl rfl rfl (L_move rfl) ?_
           refine t_old 26 rfl rfl rfl (by first | exact l_sub rfl rfl rfl | exact L_bin rfl rfl rfl rfl) ?_
           refine t_old 27 rfl rfl rfl (L_index rfl rfl (by first | exact i_ro sl_27 ty_76 | exact i_sl sl_27 ty_76)) ?_
           refine t_old 28 rfl rfl rfl (l_field rfl fo_76_0) ?_
           refine t_light 29 rfl rfl rfl (L_load rfl (by first | exact d_bp ty_3 | exact ld_rp ty_3 rfl | exact d_ep ty_3)) ?_
           refine t_old 30 rfl rfl rfl (L_bin rfl rfl rfl rfl) ?_
           refine t_old 31 rfl rfl rfl (L_move rfl) ?_
           refine T_split 88 (b := _) rfl rfl (fun hg88 => ?_) (fun hg88 => ?_)
           ·refine t_skip 32 rfl rfl rfl ?_
            refine t_skip 33 rfl rfl rfl ?_
            refine t_skip 34 rfl rfl rfl ?_
            refine t_skip 35 rfl rfl rfl ?_
            refine t_skip 36 rfl rfl rfl ?_
            refine t_skip 37 rfl rfl rfl ?_
            refine t_skip 38 rfl rfl rfl ?_
            refine t_skip 39 rfl rfl rfl ?_
            refine t_skip 40 rfl rfl rfl ?_
            refine t_skip 41 rfl rfl rfl ?_
            refine t_old 42 rfl rfl rfl (L_pick rfl rfl) ?_
            refine t_old 43 rfl rfl rfl (L_pick rfl rfl) ?_
            refine t_old 44 rfl rfl rfl (L_pick rfl rfl) ?_
            refine T_done (by kernel_rfl) ?_
            refine G_cond rfl (fun hc101 => ?_) (fun hc101 => ?_)
            ·have hf := crk_no_piv (c := c) (k := k) (by omega) (by
              rw [hP]
              first
               | exact nq1 (by simpa only [Bool.not_eq_true'] using hg61)
               | exact nq2 (by simp at hg66; omega)
               | exact nq2 (by simp [ints_len] at hg74; omega)
               | exact nq3 (by simp at hg88; omega)
               | exact nq3 (by simp at hc101; omega))
             refine G_seq ?_
             refine G_region' (L := [0]) rfl ?_
             refine xas ?_
             refine EOps_nil ?_
             refine G_ret ?_
             refine ⟨_, [], rfl, rfl, bool_eq ?_, rfl⟩
             simp [hf]
            ·exact Bool.noConfusion (hc101 : true = false)
           ·refine t_old 32 rfl rfl rfl (l_field rfl fo_76_1) ?_
            refine t_light 33 rfl rfl rfl (L_load rfl (by first | exact d_bp ty_3 | exact ld_rp ty_3 rfl | exact d_ep ty_3)) ?_
            refine t_old 34 rfl rfl rfl (l_field rfl fo_29_2) ?_
            refine t_light 35 rfl rfl rfl (L_load rfl (by first | exact d_bp ty_27 | exact ld_rp ty_27 rfl | exact d_ep ty_27)) ?_
            refine t_old 36 rfl rfl rfl (L_move rfl) ?_
            refine t_old 37 rfl rfl rfl (by first | exact l_sub rfl rfl rfl | exact L_bin rfl rfl rfl rfl) ?_
            refine t_old 38 rfl rfl rfl (L_index rfl rfl (by first | exact i_ro sl_27 ty_76 | exact i_sl sl_27 ty_76)) ?_
            refine t_old 39 rfl rfl rfl (l_field rfl fo_76_1) ?_
            refine t_light 40 rfl rfl rfl (L_load rfl (by first | exact d_bp ty_3 | exact ld_rp ty_3 rfl | exact d_ep ty_3)) ?_
            refine t_old 41 rfl rfl rfl (L_bin rfl rfl rfl rfl) ?_
            refine t_old 42 rfl rfl rfl (L_pick rfl rfl) ?_
            refine t_old 43 rfl rfl rfl (L_pick rfl rfl) ?_
            refine t_old 44 rfl rfl rfl (L_pick rfl rfl) ?_
            refine T_done (by kernel_rfl) ?_
            refine G_cond rfl (fun hc101 => ?_) (fun hc101 => ?_)
            ·have hf := crk_no_piv (c := c) (k := k) (by omega) (by
              rw [hP]
              first
               | exact nq1 (by simpa only [Bool.not_eq_true'] using hg61)
               | exact nq2 (by simp at hg66; omega)
               | exact nq2 (by simp [ints_len] at hg74; omega)
               | exact nq3 (by simp at hg88; omega)
               | exact nq3 (by simp at hc101; omega))
             refine G_seq ?_
             refine G_region' (L := [0]) rfl ?_
             refine xas ?_
             refine EOps_nil ?_
             refine G_ret ?_
             refine ⟨_, [], rfl, rfl, bool_eq ?_, rfl⟩
             simp [hf]
            ·have q1 : isIn p.1 (-1000) 1000 = true := by simpa only [Bool.not_eq_false'] using hg61
             have q2 : 0 ≤ p.2 ∧ p.2 ≤ (c.vals.length : Int) := by simp [ints_len] at hg66 hg74; omega
             have q3 : k = 0 ∨ (q.1 < p.1 ∧ q.2 ≤ p.2) := by
              first
               | (left; simp at hg77; omega)
               | (right; simp at hg88 hc101; omega)
             refine G_skip ?_
             refine G_seq ?_
             refine G_region' (L := [0, 1, 2, 3]) rfl ?_
             refine x_pure rfl rfl rfl (l_field rfl fo_29_0) ?_
             refine x_light rfl rfl rfl (L_load rfl (by first | exact d_bp ty_22 | exact ld_rp ty_22 rfl | exact d_ep ty_22)) ?_
             refine x_pure rfl rfl rfl (l_len rfl sl_22) ?_
             refine xmv ?_
             refine EOps_nil ?_
             refine G_block ?_
             refine g_for (α := Nat) [0, 1, 3, 4, 5, 6, 33, 35, 36, 37, 38, 47, 50, 51, 52, 53, 101, 103, 104] (fun i => [(105, .c (.sc (.int .i64 (i))))]) (fun _ => _) (fun i => i ≤ c.vals.length ∧ allK (sideP c.vals p) i = true) (fun i => c.vals.length - i) (0) ?_ (rfl) ⟨.inr rfl, trivial⟩ ?_
             ·exact ⟨Nat.zero_le _, rfl⟩
             rintro i ⟨hi, hside⟩
             refine G_seq ?_
             refine G_region' (L := [0]) rfl ?_
             refine x_pure rfl rfl rfl (L_bin rfl rfl rfl rfl) ?_
             refine EOps_nil ?_
             refine G_seq ?_
             refine G_cond rfl (fun hc106 => ?_) (fun hc106 => ?_)
             ·have hc106' : i < (c.vals).length := by simpa [ints_len, bools_len, pairs_len, quads_len, quints_len] using hc106
              obtain ⟨v, hx⟩ : ∃ x, (c.vals)[i]? = some x := ⟨_, List.getElem?_eq_getElem hc106'⟩
              refine G_skip ?_
              refine G_seq ?_
              refine G_block ?_
              refine G_seq ?_
              refine G_region' (L := [0, 1, 2, 3, 4]) rfl ?_
              refine xmv ?_
              refine x_pure rfl rfl rfl (L_index rfl rfl (by first | exact i_ro sl_22 ty_3 | exact i_sl sl_22 ty_3)) ?_
              refine x_light rfl rfl rfl (L_load rfl (by first | exact d_bp ty_3 | exact ld_rp ty_3 rfl | exact d_ep ty_3)) ?_
              refine xas ?_
              refine xas ?_
              refine EOps_nil ?_
              refine G_seq ?_
              refine G_region' (L := [0, 1, 2, 3, 4, 5, 6, 7, 8]) rfl ?_
              refine xmv ?_
              refine x_pure rfl rfl rfl (l_field rfl fo_76_0) ?_
              refine x_light rfl rfl rfl (L_load rfl (by first | exact d_bp ty_3 | exact ld_rp ty_3 rfl | exact d_ep ty_3)) ?_
              refine x_pure rfl rfl rfl (L_bin rfl rfl rfl rfl) ?_
              refine xmv ?_
              refine x_pure rfl rfl rfl (l_field rfl fo_76_1) ?_
              refine x_light rfl rfl rfl (L_load rfl (by first | exact d_bp ty_3 | exact ld_rp ty_3 rfl | exact d_ep ty_3)) ?_
              refine x_pure rfl rfl rfl (L_bin rfl rfl rfl rfl) ?_
              refine x_pure rfl rfl rfl (L_binB rfl bo_4 rfl rfl rfl) ?_
              refine EOps_nil ?_
              refine G_cond rfl (fun hc118 => ?_) (fun hc118 => ?_)
              ·have hf := crk_no_piv (c := c) (k := k) (by omega) (by rw [hP]; exact nq4 (i := i) (by omega) (by rw [sideP_at hx]; exact bq_no hc118))
               refine G_seq ?_
               refine G_region' (L := [0]) rfl ?_
               refine xas ?_
               refine EOps_nil ?_
               refine G_ret ?_
               refine ⟨_, [], rfl, rfl, bool_eq ?_, rfl⟩
               simp [hf]
              ·refine G_skip ?_
               refine G_region' (L := [0, 1]) rfl ?_
               refine x_pure rfl rfl rfl (by first | exact l_add rfl rfl rfl | exact L_bin rfl rfl rfl rfl) ?_
               refine xmv ?_
               refine EOps_nil ?_
               refine ⟨i + 1, ?_, ?_, rfl, ⟨.inr rfl, trivial⟩, ⟨.inr rfl, .inr rfl, .inr rfl, .inr rfl, .inr rfl, .inr rfl, .inr rfl, .inr rfl, .inr rfl, .inr rfl, .inr rfl, .inr rfl, .inr rfl, .inr rfl, .inr rfl, .inr rfl, .inr rfl, .inr rfl, .inr rfl, trivial⟩⟩
               ·first | omega | (dsimp only; omega) | (simp; omega)
               ·exact ⟨by omega, allK_step hside (by rw [sideP_at hx]; exact bq_yes hc118)⟩
             ·have hsides : allK (sideP c.vals p) c.vals.length = true := by
               have : c.vals.length ≤ i := by simpa [ints_len] using hc106
               rwa [show i = c.vals.length by omega] at hside
              refine G_exit ?_
              refine G_region' (L := [0, 1]) rfl ?_
              refine x_pure rfl rfl rfl (by first | exact l_add rfl rfl rfl | exact L_bin rfl rfl rfl rfl) ?_
              refine xmv ?_
              refine EOps_nil ?_
              refine ⟨[0], rfl, k + 1, ?_, ?_, rfl, ⟨.inr rfl, trivial⟩, ⟨.inr rfl, .inr rfl, .inr rfl, .inr rfl, .inr rfl, .inr rfl, .inr rfl, .inr rfl, .inr rfl, .inr rfl, .inr rfl, .inr rfl, trivial⟩⟩
              ·first | omega | (dsimp only; omega) | (simp; omega)
              ·exact ⟨by omega, allK_step hpiv (by rw [hP]; exact pivQ_yes q1 q2 q3 hsides)⟩
          ·refine t_skip 21 rfl rfl rfl ?_
           refine t_skip 22 rfl rfl rfl ?_
           refine t_skip 23 rfl rfl rfl ?_
           refine t_skip 24 rfl rfl rfl ?_
           refine t_skip 25 rfl rfl rfl ?_
           refine t_skip 26 rfl rfl rfl ?_
           refine t_skip 27 rfl rfl rfl ?_
           refine t_skip 28 rfl rfl rfl ?_
           refine t_skip 29 rfl rfl rfl ?_
           refine t_skip 30 rfl rfl rfl ?_
           refine t_skip 31 rfl rfl rfl ?_
           refine t_skip 32 rfl rfl rfl ?_
           refine t_skip 33 rfl rfl rfl ?_
           refine t_skip 34 rfl rfl rfl ?_
           refine t_skip 35 rfl rfl rfl ?_
           refine t_skip 36 rfl rfl rfl ?_
           refine t_skip 37 rfl rfl rfl ?_
           refine t_skip 38 rfl rfl rfl ?_
           refine t_skip 39 rfl rfl rfl ?_
           refine t_skip 40 rfl rfl rfl ?_
           refine t_skip 41 rfl rfl rfl ?_
           refine t_skip 42 rfl rfl rfl ?_
           refine t_old 43 rfl rfl rfl (L_pick rfl rfl) ?_
           refine t_old 44 rfl rfl rfl (L_pick rfl rfl) ?_
           refine T_done (by kernel_rfl) ?_
           refine G_cond rfl (fun hc101 => ?_) (fun hc101 => ?_)
           ·exact Bool.noConfusion (hc101 : false = true)
           ·have q1 : isIn p.1 (-1000) 1000 = true := by simpa only [Bool.not_eq_false'] using hg61
            have q2 : 0 ≤ p.2 ∧ p.2 ≤ (c.vals.length : Int) := by simp [ints_len] at hg66 hg74; omega
            have q3 : k = 0 ∨ (q.1 < p.1 ∧ q.2 ≤ p.2) := by
             first
              | (left; simp at hg77; omega)
              | (right; simp at hg88 hc101; omega)
            refine G_skip ?_
            refine G_seq ?_
            refine G_region' (L := [0, 1, 2, 3]) rfl ?_
            refine x_pure rfl rfl rfl (l_field rfl fo_29_0) ?_
            refine x_light rfl rfl rfl (L_load rfl (by first | exact d_bp ty_22 | exact ld_rp ty_22 rfl | exact d_ep ty_22)) ?_
            refine x_pure rfl rfl rfl (l_len rfl sl_22) ?_
            refine xmv ?_
            refine EOps_nil ?_
            refine G_block ?_
            refine g_for (α := Nat) [0, 1, 3, 4, 5, 6, 33, 35, 36, 37, 38, 47, 50, 51, 52, 53, 101, 103, 104] (fun i => [(105, .c (.sc (.int .i64 (i))))]) (fun _ => _) (fun i => i ≤ c.vals.length ∧ allK (sideP c.vals p) i = true) (fun i => c.vals.length - i) (0) ?_ (rfl) ⟨.inr rfl, trivial⟩ ?_
            ·exact ⟨Nat.zero_le _, rfl⟩
            rintro i ⟨hi, hside⟩
            refine G_seq ?_
            refine G_region' (L := [0]) rfl ?_
            refine x_pure rfl rfl rfl (L_bin rfl rfl rfl rfl) ?_
            refine EOps_nil ?_
            refine G_seq ?_
            refine G_cond rfl (fun hc106 => ?_) (fun hc106 => ?_)
            ·have hc106' : i < (c.vals).length := by simpa [ints_len, bools_len, pairs_len, quads_len, quints_len] using hc106
             obtain ⟨v, hx⟩ : ∃ x, (c.vals)[i]? = some x := ⟨_, List.getElem?_eq_getElem hc106'⟩
             refine G_skip ?_
             refine G_seq ?_
             refine G_block ?_
             refine G_seq ?_
             refine G_region' (L := [0, 1, 2, 3, 4]) rfl ?_
             refine xmv ?_
             refine x_pure rfl rfl rfl (L_index rfl rfl (by first | exact i_ro sl_22 ty_3 | exact i_sl sl_22 ty_3)) ?_
             refine x_light rfl rfl rfl (L_load rfl (by first | exact d_bp ty_3 | exact ld_rp ty_3 rfl | exact d_ep ty_3)) ?_
             refine xas ?_
             refine xas ?_
             refine EOps_nil ?_
             refine G_seq ?_
             refine G_region' (L := [0, 1, 2, 3, 4, 5, 6, 7, 8]) rfl ?_
             refine xmv ?_
             refine x_pure rfl rfl rfl (l_field rfl fo_76_0) ?_
             refine x_light rfl rfl rfl (L_load rfl (by first | exact d_bp ty_3 | exact ld_rp ty_3 rfl | exact d_ep ty_3)) ?_
             refine x_pure rfl rfl rfl (L_bin rfl rfl rfl rfl) ?_
             refine xmv ?_
             refine x_pure rfl rfl rfl (l_field rfl fo_76_1) ?_
             refine x_light rfl rfl rfl (L_load rfl (by first | exact d_bp ty_3 | exact ld_rp ty_3 rfl | exact d_ep ty_3)) ?_
             refine x_pure rfl rfl rfl (L_bin rfl rfl rfl rfl) ?_
             refine x_pure rfl rfl rfl (L_binB rfl bo_4 rfl rfl rfl) ?_
             refine EOps_nil ?_
             refine G_cond rfl (fun hc118 => ?_) (fun hc118 => ?_)
             ·have hf := crk_no_piv (c := c) (k := k) (by omega) (by rw [hP]; exact nq4 (i := i) (by omega) (by rw [sideP_at hx]; exact bq_no hc118))
              refine G_seq ?_
              refine G_region' (L := [0]) rfl ?_
              refine xas ?_
              refine EOps_nil ?_
              refine G_ret ?_
              refine ⟨_, [], rfl, rfl, bool_eq ?_, rfl⟩
              simp [hf]
             ·refine G_skip ?_
              refine G_region' (L := [0, 1]) rfl ?_
              refine x_pure rfl rfl rfl (by first | exact l_add rfl rfl rfl | exact L_bin rfl rfl rfl rfl) ?_
              refine xmv ?_
              refine EOps_nil ?_
              refine ⟨i + 1, ?_, ?_, rfl, ⟨.inr rfl, trivial⟩, ⟨.inr rfl, .inr rfl, .inr rfl, .inr rfl, .inr rfl, .inr rfl, .inr rfl, .inr rfl, .inr rfl, .inr rfl, .inr rfl, .inr rfl, .inr rfl, .inr rfl, .inr rfl, .inr rfl, .inr rfl, .inr rfl, .inr rfl, trivial⟩⟩
              ·first | omega | (dsimp only; omega) | (simp; omega)
              ·exact ⟨by omega, allK_step hside (by rw [sideP_at hx]; exact bq_yes hc118)⟩
            ·have hsides : allK (sideP c.vals p) c.vals.length = true := by
              have : c.vals.length ≤ i := by simpa [ints_len] using hc106
              rwa [show i = c.vals.length by omega] at hside
             refine G_exit ?_
             refine G_region' (L := [0, 1]) rfl ?_
             refine x_pure rfl rfl rfl (by first | exact l_add rfl rfl rfl | exact L_bin rfl rfl rfl rfl) ?_
             refine xmv ?_
             refine EOps_nil ?_
             refine ⟨[0], rfl, k + 1, ?_, ?_, rfl, ⟨.inr rfl, trivial⟩, ⟨.inr rfl, .inr rfl, .inr rfl, .inr rfl, .inr rfl, .inr rfl, .inr rfl, .inr rfl, .inr rfl, .inr rfl, .inr rfl, .inr rfl, trivial⟩⟩
             ·first | omega | (dsimp only; omega) | (simp; omega)
             ·exact ⟨by omega, allK_step hpiv (by rw [hP]; exact pivQ_yes q1 q2 q3 hsides)⟩
      ·have hf : isCrk c = true := by
        have : c.piv.length ≤ k := by simpa [pairs_len] using hc53
        rw [show k = c.piv.length by omega] at hpiv
        have hrw := rows_split c.rows
        rw [hin, hrows] at hrw
        simp only [isCrk, hv, hrw, hpiv, decide_eq_true hrl, Bool.and_self]
       refine G_exit ?_
       refine G_seq ?_
       refine G_region' (L := [0]) rfl ?_
       refine xas ?_
       refine EOps_nil ?_
       refine G_ret ?_
       refine ⟨_, [], rfl, rfl, bool_eq ?_, rfl⟩
       simp [hf]

set_option maxRecDepth 20000 in
set_option maxHeartbeats 2000000 in
theorem c_spec_l4Pivots (c : Crk) : EFn Tryz.prog 49 [.c (.ro (ints c.vals)), .c (.ro (pairs c.piv))] [] (fun r S => r = .c (.sc (.bool (allK (pivP c.vals c.piv) c.piv.length))) ∧ S = []) := by
 refine E_fn Tryz.func49 rfl (Nat.le_of_ble_eq_true rfl) ?_
 refine E_G (n := 0) rfl ?_
 refine G_bound (t := 0) (rows := ints c.vals) rfl fun hb => ?_
 rw [ints_len] at hb
 refine G_bound (t := 1) (rows := pairs c.piv) rfl fun hb' => ?_
 rw [pairs_len] at hb'
 refine G_seq ?_
 refine G_region' (L := [0]) rfl ?_
 refine xas ?_
 refine EOps_nil ?_
 refine G_seq ?_
 refine G_seq ?_
 refine G_region' (L := [0]) rfl ?_
 refine xas ?_
 refine EOps_nil ?_
 refine G_block ?_
 refine g_forD (α := Nat) [0, 1] (fun k => [(5, .c (.sc (.int .i64 (k))))]) (fun _ => _) (fun k => k ≤ c.piv.length ∧ allK (pivP c.vals c.piv) k = true) (fun k => c.piv.length - k) (0) ?_ (rfl) ⟨.inr rfl, trivial⟩ ?_
 ·exact ⟨Nat.zero_le _, rfl⟩
 rintro k ⟨hk, hpiv⟩
 refine G_seq ?_
 refine G_seq ?_
 refine G_region' (L := [0, 1, 2, 3]) rfl ?_
 refine xmv ?_
 refine xmv ?_
 refine x_pure rfl rfl rfl (l_len rfl sl_27) ?_
 refine x_pure rfl rfl rfl (L_bin rfl rfl rfl rfl) ?_
 refine EOps_nil ?_
 refine G_cond rfl (fun hc11 => ?_) (fun hc11 => ?_)
 ·have hc11' : k < (c.piv).length := by simpa [ints_len, bools_len, pairs_len, quads_len, quints_len] using hc11
  obtain ⟨p, hp⟩ : ∃ x, (c.piv)[k]? = some x := ⟨_, List.getElem?_eq_getElem hc11'⟩
  obtain ⟨q, hq⟩ := pred_at (l := c.piv) (k := k) (by omega)
  have hP := pivP_at (vals := c.vals) hp hq
  refine G_skip ?_
  refine G_seq ?_
  refine G_block ?_
  refine G_seq ?_
  refine G_region' (L := [0, 1, 2, 3, 4, 5]) rfl ?_
  refine xmv ?_
  refine xmv ?_
  refine x_pure rfl rfl rfl (L_index rfl rfl (by first | exact i_ro sl_27 ty_76 | exact i_sl sl_27 ty_76)) ?_
  refine x_light rfl rfl rfl (L_load rfl (by first | exact d_bp ty_76 | exact ld_rp ty_76 rfl | exact d_ep ty_76)) ?_
  refine x_alloc rfl rfl rfl rfl za_76 ?_
  refine EOps_go rfl rfl (EOp_store rfl rfl rfl (by first | exact s_bp ty_76 | exact s_ep ty_76) ?_)
  refine EOps_nil ?_
  refine G_seq ?_
  refine G_seq ?_
  refine g_tidy [0, 1, 4, 5, 6, 7, 11, 55, 59, 73] ?_
  refine G_drawT mixed ?_
  refine t_old 0 rfl rfl rfl (l_field rfl fo_76_0) ?_
  refine t_light 1 rfl rfl rfl (L_load rfl (by first | exact d_bp ty_3 | exact ld_rp ty_3 rfl | exact d_ep ty_3)) ?_
  refine t_call 2 rfl rfl rfl rfl rfl ca_34 (c_spec_l1In p.1 (-1000) 1000) ?_
  rintro r S ⟨rfl, rfl⟩
  refine t_old 3 rfl rfl rfl (L_not rfl rfl) ?_
  refine t_old 4 rfl rfl rfl (L_move rfl) ?_
  refine T_split 22 (b := _) rfl rfl (fun hg22 => ?_) (fun hg22 => ?_)
  ·refine t_skip 5 rfl rfl rfl ?_
   refine t_skip 6 rfl rfl rfl ?_
   refine t_skip 7 rfl rfl rfl ?_
   refine t_skip 8 rfl rfl rfl ?_
   refine t_skip 9 rfl rfl rfl ?_
   refine t_skip 10 rfl rfl rfl ?_
   refine t_old 11 rfl rfl rfl (L_pick rfl rfl) ?_
   refine t_old 12 rfl rfl rfl (L_move rfl) ?_
   refine t_skip 13 rfl rfl rfl ?_
   refine t_skip 14 rfl rfl rfl ?_
   refine t_skip 15 rfl rfl rfl ?_
   refine t_skip 16 rfl rfl rfl ?_
   refine t_skip 17 rfl rfl rfl ?_
   refine t_skip 18 rfl rfl rfl ?_
   refine t_skip 19 rfl rfl rfl ?_
   refine t_skip 20 rfl rfl rfl ?_
   refine t_skip 21 rfl rfl rfl ?_
   refine t_skip 22 rfl rfl rfl ?_
   refine t_skip 23 rfl rfl rfl ?_
   refine t_skip 24 rfl rfl rfl ?_
   refine t_skip 25 rfl rfl rfl ?_
   refine t_skip 26 rfl rfl rfl ?_
   refine t_skip 27 rfl rfl rfl ?_
   refine t_skip 28 rfl rfl rfl ?_
   refine t_skip 29 rfl rfl rfl ?_
   refine t_skip 30 rfl rfl rfl ?_
   refine t_skip 31 rfl rfl rfl ?_
   refine t_skip 32 rfl rfl rfl ?_
   refine t_skip 33 rfl rfl rfl ?_
   refine t_skip 34 rfl rfl rfl ?_
   refine t_skip 35 rfl rfl rfl ?_
   refine t_skip 36 rfl rfl rfl ?_
   refine t_old 37 rfl rfl rfl (L_pick rfl rfl) ?_
   refine T_done (by kernel_rfl) ?_
   refine G_cond rfl (fun hc55 => ?_) (fun hc55 => ?_)
   ·have hf := allK_not (p := pivP c.vals c.piv) (k := k) (n := c.piv.length) (by
     rw [hP]
     first
      | exact nq1 (by simpa only [Bool.not_eq_true'] using hg22)
      | exact nq2 (by simp [isIn, ints_len] at hg30; omega)
      | exact nq3 (by simp at hg43; omega)
      | exact nq3 (by simp at hc55; omega)) (by omega)
    refine G_seq ?_
    refine G_region' (L := [0]) rfl ?_
    refine xas ?_
    refine EOps_nil ?_
    refine G_ret ?_
    refine ⟨_, [], rfl, rfl, bool_eq ?_, rfl⟩
    simp [hf]
   ·exact Bool.noConfusion (hc55 : true = false)
  ·refine t_old 5 rfl rfl rfl (l_field rfl fo_76_1) ?_
   refine t_light 6 rfl rfl rfl (L_load rfl (by first | exact d_bp ty_3 | exact ld_rp ty_3 rfl | exact d_ep ty_3)) ?_
   refine t_old 7 rfl rfl rfl (L_move rfl) ?_
   refine t_old 8 rfl rfl rfl (l_len rfl sl_22) ?_
   refine t_call 9 rfl rfl rfl rfl rfl ca_34 (c_spec_l1In p.2 0 (ints c.vals).length) ?_
   rintro r S ⟨rfl, rfl⟩
   refine t_old 10 rfl rfl rfl (L_not rfl rfl) ?_
   refine t_old 11 rfl rfl rfl (L_pick rfl rfl) ?_
   refine t_old 12 rfl rfl rfl (L_move rfl) ?_
   refine T_split 30 (b := _) rfl rfl (fun hg30 => ?_) (fun hg30 => ?_)
   ·refine t_skip 13 rfl rfl rfl ?_
    refine t_skip 14 rfl rfl rfl ?_
    refine t_skip 15 rfl rfl rfl ?_
    refine t_skip 16 rfl rfl rfl ?_
    refine t_skip 17 rfl rfl rfl ?_
    refine t_skip 18 rfl rfl rfl ?_
    refine t_skip 19 rfl rfl rfl ?_
    refine t_skip 20 rfl rfl rfl ?_
    refine t_skip 21 rfl rfl rfl ?_
    refine t_skip 22 rfl rfl rfl ?_
    refine t_skip 23 rfl rfl rfl ?_
    refine t_skip 24 rfl rfl rfl ?_
    refine t_skip 25 rfl rfl rfl ?_
    refine t_skip 26 rfl rfl rfl ?_
    refine t_skip 27 rfl rfl rfl ?_
    refine t_skip 28 rfl rfl rfl ?_
    refine t_skip 29 rfl rfl rfl ?_
    refine t_skip 30 rfl rfl rfl ?_
    refine t_skip 31 rfl rfl rfl ?_
    refine t_skip 32 rfl rfl rfl ?_
    refine t_skip 33 rfl rfl rfl ?_
    refine t_skip 34 rfl rfl rfl ?_
    refine t_skip 35 rfl rfl rfl ?_
    refine t_skip 36 rfl rfl rfl ?_
    refine t_old 37 rfl rfl rfl (L_pick rfl rfl) ?_
    refine T_done (by kernel_rfl) ?_
    refine G_cond rfl (fun hc55 => ?_) (fun hc55 => ?_)
    ·have hf := allK_not (p := pivP c.vals c.piv) (k := k) (n := c.piv.length) (by
      rw [hP]
      first
       | exact nq1 (by simpa only [Bool.not_eq_true'] using hg22)
       | exact nq2 (by simp [isIn, ints_len] at hg30; omega)
       | exact nq3 (by simp at hg43; omega)
       | exact nq3 (by simp at hc55; omega)) (by omega)
     refine G_seq ?_
     refine G_region' (L := [0]) rfl ?_
     refine xas ?_
     refine EOps_nil ?_
     refine G_ret ?_
     refine ⟨_, [], rfl, rfl, bool_eq ?_, rfl⟩
     simp [hf]
    ·exact Bool.noConfusion (hc55 : true = false)
   ·refine t_old 13 rfl rfl rfl (L_move rfl) ?_
    refine t_old 14 rfl rfl rfl (L_bin rfl rfl rfl rfl) ?_
    refine t_old 15 rfl rfl rfl (L_move rfl) ?_
    refine T_split 33 (b := _) rfl rfl (fun hg33 => ?_) (fun hg33 => ?_)
    ·have hk0 : 0 < k := by simpa using hg33
     have hq' : c.piv[((k : Int) - 1).toNat]? = some q := by rw [show ((k : Int) - 1).toNat = k - 1 by omega]; exact hq hk0
     refine t_old 16 rfl rfl rfl (l_field rfl fo_76_0) ?_
     refine t_light 17 rfl rfl rfl (L_load rfl (by first | exact d_bp ty_3 | exact ld_rp ty_3 rfl | exact d_ep ty_3)) ?_
     refine t_old 18 rfl rfl rfl (L_move rfl) ?_
     refine t_old 19 rfl rfl rfl (L_move rfl) ?_
     refine t_old 20 rfl rfl rfl (by first | exact l_sub rfl rfl rfl | exact L_bin rfl rfl rfl rfl) ?_
     refine t_old 21 rfl rfl rfl (L_index rfl rfl (by first | exact i_ro sl_27 ty_76 | exact i_sl sl_27 ty_76)) ?_
     refine t_old 22 rfl rfl rfl (l_field rfl fo_76_0) ?_
     refine t_light 23 rfl rfl rfl (L_load rfl (by first | exact d_bp ty_3 | exact ld_rp ty_3 rfl | exact d_ep ty_3)) ?_
     refine t_old 24 rfl rfl rfl (L_bin rfl rfl rfl rfl) ?_
     refine t_old 25 rfl rfl rfl (L_move rfl) ?_
     refine T_split 43 (b := _) rfl rfl (fun hg43 => ?_) (fun hg43 => ?_)
     ·refine t_skip 26 rfl rfl rfl ?_
      refine t_skip 27 rfl rfl rfl ?_
      refine t_skip 28 rfl rfl rfl ?_
      refine t_skip 29 rfl rfl rfl ?_
      refine t_skip 30 rfl rfl rfl ?_
      refine t_skip 31 rfl rfl rfl ?_
      refine t_skip 32 rfl rfl rfl ?_
      refine t_skip 33 rfl rfl rfl ?_
      refine t_skip 34 rfl rfl rfl ?_
      refine t_old 35 rfl rfl rfl (L_pick rfl rfl) ?_
      refine t_old 36 rfl rfl rfl (L_pick rfl rfl) ?_
      refine t_old 37 rfl rfl rfl (L_pick rfl rfl) ?_
      refine T_done (by kernel_rfl) ?_
      refine G_cond rfl (fun hc55 => ?_) (fun hc55 => ?_)
      ·have hf := allK_not (p := pivP c.vals c.piv) (k := k) (n := c.piv.length) (by
        rw [hP]
        first
         | exact nq1 (by simpa only [Bool.not_eq_true'] using hg22)
         | exact nq2 (by simp [isIn, ints_len] at hg30; omega)
         | exact nq3 (by simp at hg43; omega)
         | exact nq3 (by simp at hc55; omega)) (by omega)
       refine G_seq ?_
       refine G_region' (L := [0]) rfl ?_
       refine xas ?_
       refine EOps_nil ?_
       refine G_ret ?_
       refine ⟨_, [], rfl, rfl, bool_eq ?_, rfl⟩
       simp [hf]
      ·exact Bool.noConfusion (hc55 : true = false)
     ·refine t_old 26 rfl rfl rfl (l_field rfl fo_76_1) ?_
      refine t_light 27 rfl rfl rfl (L_load rfl (by first | exact d_bp ty_3 | exact ld_rp ty_3 rfl | exact d_ep ty_3)) ?_
      refine t_old 28 rfl rfl rfl (L_move rfl) ?_
      refine t_old 29 rfl rfl rfl (L_move rfl) ?_
      refine t_old 30 rfl rfl rfl (by first | exact l_sub rfl rfl rfl | exact L_bin rfl rfl rfl rfl) ?_
      refine t_old 31 rfl rfl rfl (L_index rfl rfl (by first | exact i_ro sl_27 ty_76 | exact i_sl sl_27 ty_76)) ?_
      refine t_old 32 rfl rfl rfl (l_field rfl fo_76_1) ?_
      refine t_light 33 rfl rfl rfl (L_load rfl (by first | exact d_bp ty_3 | exact ld_rp ty_3 rfl | exact d_ep ty_3)) ?_
      refine t_old 34 rfl rfl rfl (L_bin rfl rfl rfl rfl) ?_
      refine t_old 35 rfl rfl rfl (L_pick rfl rfl) ?_
      refine t_old 36 rfl rfl rfl (L_pick rfl rfl) ?_
      refine t_old 37 rfl rfl rfl (L_pick rfl rfl) ?_
      refine T_done (by kernel_rfl) ?_
      refine G_cond rfl (fun hc55 => ?_) (fun hc55 => ?_)
      ·have hf := allK_not (p := pivP c.vals c.piv) (k := k) (n := c.piv.length) (by
        rw [hP]
        first
         | exact nq1 (by simpa only [Bool.not_eq_true'] using hg22)
         | exact nq2 (by simp [isIn, ints_len] at hg30; omega)
         | exact nq3 (by simp at hg43; omega)
         | exact nq3 (by simp at hc55; omega)) (by omega)
       refine G_seq ?_
       refine G_region' (L := [0]) rfl ?_
       refine xas ?_
       refine EOps_nil ?_
       refine G_ret ?_
       refine ⟨_, [], rfl, rfl, bool_eq ?_, rfl⟩
       simp [hf]
      ·have q1 : isIn p.1 (-1000) 1000 = true := by simpa only [Bool.not_eq_false'] using hg22
       have q2 : 0 ≤ p.2 ∧ p.2 ≤ (c.vals.length : Int) := by simp [isIn, ints_len] at hg30; omega
       have q3 : k = 0 ∨ (q.1 < p.1 ∧ q.2 ≤ p.2) := by
        first
         | (left; simp at hg33; omega)
         | (right; simp at hg43 hc55; omega)
       refine G_skip ?_
       refine G_seq ?_
       refine G_region' (L := [0]) rfl ?_
       refine xas ?_
       refine EOps_nil ?_
       refine G_block ?_
       refine g_for (α := Nat) [0, 1, 5, 6, 11, 55] (fun i => [(7, .c (.sc (.int .i64 (i))))]) (fun _ => _) (fun i => i ≤ c.vals.length ∧ allK (sideP c.vals p) i = true) (fun i => c.vals.length - i) (0) ?_ (rfl) ⟨.inr rfl, trivial⟩ ?_
       ·exact ⟨Nat.zero_le _, rfl⟩
       rintro i ⟨hi, hside⟩
       refine G_seq ?_
       refine G_seq ?_
       refine G_region' (L := [0, 1, 2, 3]) rfl ?_
       refine xmv ?_
       refine xmv ?_
       refine x_pure rfl rfl rfl (l_len rfl sl_22) ?_
       refine x_pure rfl rfl rfl (L_bin rfl rfl rfl rfl) ?_
       refine EOps_nil ?_
       refine G_cond rfl (fun hc59 => ?_) (fun hc59 => ?_)
       ·have hc59' : i < (c.vals).length := by simpa [ints_len, bools_len, pairs_len, quads_len, quints_len] using hc59
        obtain ⟨v, hx⟩ : ∃ x, (c.vals)[i]? = some x := ⟨_, List.getElem?_eq_getElem hc59'⟩
        refine G_skip ?_
        refine G_seq ?_
        refine G_block ?_
        refine G_seq ?_
        refine G_drawT mixed ?_
        refine t_old 0 rfl rfl rfl (L_move rfl) ?_
        refine t_old 1 rfl rfl rfl (L_move rfl) ?_
        refine t_old 2 rfl rfl rfl (L_index rfl rfl (by first | exact i_ro sl_22 ty_3 | exact i_sl sl_22 ty_3)) ?_
        refine t_light 3 rfl rfl rfl (L_load rfl (by first | exact d_bp ty_3 | exact ld_rp ty_3 rfl | exact d_ep ty_3)) ?_
        refine t_old 4 rfl rfl rfl (l_field rfl fo_76_0) ?_
        refine t_light 5 rfl rfl rfl (L_load rfl (by first | exact d_bp ty_3 | exact ld_rp ty_3 rfl | exact d_ep ty_3)) ?_
        refine t_old 6 rfl rfl rfl (L_bin rfl rfl rfl rfl) ?_
        refine t_old 7 rfl rfl rfl (L_move rfl) ?_
        refine t_old 8 rfl rfl rfl (l_field rfl fo_76_1) ?_
        refine t_light 9 rfl rfl rfl (L_load rfl (by first | exact d_bp ty_3 | exact ld_rp ty_3 rfl | exact d_ep ty_3)) ?_
        refine t_old 10 rfl rfl rfl (L_bin rfl rfl rfl rfl) ?_
        refine t_old 11 rfl rfl rfl (L_binB rfl bo_4 rfl rfl rfl) ?_
        refine T_done (by kernel_rfl) ?_
        refine G_cond rfl (fun hc73 => ?_) (fun hc73 => ?_)
        ·have hf := allK_not (p := pivP c.vals c.piv) (k := k) (n := c.piv.length) (by rw [hP]; exact nq4 (i := i) (by omega) (by rw [sideP_at hx]; exact bq_no hc73)) (by omega)
         refine G_seq ?_
         refine G_region' (L := [0]) rfl ?_
         refine xas ?_
         refine EOps_nil ?_
         refine G_ret ?_
         refine ⟨_, [], rfl, rfl, bool_eq ?_, rfl⟩
         simp [hf]
        ·refine G_skip ?_
         refine G_region' (L := [0, 1, 2]) rfl ?_
         refine xmv ?_
         refine x_pure rfl rfl rfl (by first | exact l_add rfl rfl rfl | exact L_bin rfl rfl rfl rfl) ?_
         refine xas ?_
         refine EOps_nil ?_
         refine ⟨i + 1, ?_, ?_, rfl, ⟨.inr rfl, trivial⟩, ⟨.inr rfl, .inr rfl, .inr rfl, .inr rfl, .inr rfl, .inr rfl, trivial⟩⟩
         ·first | omega | (dsimp only; omega) | (simp; omega)
         ·exact ⟨by omega, allK_step hside (by rw [sideP_at hx]; exact bq_yes hc73)⟩
       ·have hsides : allK (sideP c.vals p) c.vals.length = true := by
         have : c.vals.length ≤ i := by simpa [ints_len] using hc59
         rwa [show i = c.vals.length by omega] at hside
        refine G_exit ?_
        refine G_region' (L := [0, 1, 2]) rfl ?_
        refine xmv ?_
        refine x_pure rfl rfl rfl (by first | exact l_add rfl rfl rfl | exact L_bin rfl rfl rfl rfl) ?_
        refine xas ?_
        refine EOps_nil ?_
        refine ⟨[], rfl, k + 1, ?_, ?_, rfl, ⟨.inr rfl, trivial⟩, ⟨.inr rfl, .inr rfl, trivial⟩⟩
        ·first | omega | (dsimp only; omega) | (simp; omega)
        ·exact ⟨by omega, allK_step hpiv (by rw [hP]; exact pivQ_yes q1 q2 q3 hsides)⟩
    ·refine t_skip 16 rfl rfl rfl ?_
     refine t_skip 17 rfl rfl rfl ?_
     refine t_skip 18 rfl rfl rfl ?_
     refine t_skip 19 rfl rfl rfl ?_
     refine t_skip 20 rfl rfl rfl ?_
     refine t_skip 21 rfl rfl rfl ?_
     refine t_skip 22 rfl rfl rfl ?_
     refine t_skip 23 rfl rfl rfl ?_
     refine t_skip 24 rfl rfl rfl ?_
     refine t_skip 25 rfl rfl rfl ?_
     refine t_skip 26 rfl rfl rfl ?_
     refine t_skip 27 rfl rfl rfl ?_
     refine t_skip 28 rfl rfl rfl ?_
     refine t_skip 29 rfl rfl rfl ?_
     refine t_skip 30 rfl rfl rfl ?_
     refine t_skip 31 rfl rfl rfl ?_
     refine t_skip 32 rfl rfl rfl ?_
     refine t_skip 33 rfl rfl rfl ?_
     refine t_skip 34 rfl rfl rfl ?_
     refine t_skip 35 rfl rfl rfl ?_
     refine t_old 36 rfl rfl rfl (L_pick rfl rfl) ?_
     refine t_old 37 rfl rfl rfl (L_pick rfl rfl) ?_
     refine T_done (by kernel_rfl) ?_
     refine G_cond rfl (fun hc55 => ?_) (fun hc55 => ?_)
     ·exact Bool.noConfusion (hc55 : false = true)
     ·have q1 : isIn p.1 (-1000) 1000 = true := by simpa only [Bool.not_eq_false'] using hg22
      have q2 : 0 ≤ p.2 ∧ p.2 ≤ (c.vals.length : Int) := by simp [isIn, ints_len] at hg30; omega
      have q3 : k = 0 ∨ (q.1 < p.1 ∧ q.2 ≤ p.2) := by
       first
        | (left; simp at hg33; omega)
        | (right; simp at hg43 hc55; omega)
      refine G_skip ?_
      refine G_seq ?_
      refine G_region' (L := [0]) rfl ?_
      refine xas ?_
      refine EOps_nil ?_
      refine G_block ?_
      refine g_for (α := Nat) [0, 1, 5, 6, 11, 55] (fun i => [(7, .c (.sc (.int .i64 (i))))]) (fun _ => _) (fun i => i ≤ c.vals.length ∧ allK (sideP c.vals p) i = true) (fun i => c.vals.length - i) (0) ?_ (rfl) ⟨.inr rfl, trivial⟩ ?_
      ·exact ⟨Nat.zero_le _, rfl⟩
      rintro i ⟨hi, hside⟩
      refine G_seq ?_
      refine G_seq ?_
      refine G_region' (L := [0, 1, 2, 3]) rfl ?_
      refine xmv ?_
      refine xmv ?_
      refine x_pure rfl rfl rfl (l_len rfl sl_22) ?_
      refine x_pure rfl rfl rfl (L_bin rfl rfl rfl rfl) ?_
      refine EOps_nil ?_
      refine G_cond rfl (fun hc59 => ?_) (fun hc59 => ?_)
      ·have hc59' : i < (c.vals).length := by simpa [ints_len, bools_len, pairs_len, quads_len, quints_len] using hc59
       obtain ⟨v, hx⟩ : ∃ x, (c.vals)[i]? = some x := ⟨_, List.getElem?_eq_getElem hc59'⟩
       refine G_skip ?_
       refine G_seq ?_
       refine G_block ?_
       refine G_seq ?_
       refine G_drawT mixed ?_
       refine t_old 0 rfl rfl rfl (L_move rfl) ?_
       refine t_old 1 rfl rfl rfl (L_move rfl) ?_
       refine t_old 2 rfl rfl rfl (L_index rfl rfl (by first | exact i_ro sl_22 ty_3 | exact i_sl sl_22 ty_3)) ?_
       refine t_light 3 rfl rfl rfl (L_load rfl (by first | exact d_bp ty_3 | exact ld_rp ty_3 rfl | exact d_ep ty_3)) ?_
       refine t_old 4 rfl rfl rfl (l_field rfl fo_76_0) ?_
       refine t_light 5 rfl rfl rfl (L_load rfl (by first | exact d_bp ty_3 | exact ld_rp ty_3 rfl | exact d_ep ty_3)) ?_
       refine t_old 6 rfl rfl rfl (L_bin rfl rfl rfl rfl) ?_
       refine t_old 7 rfl rfl rfl (L_move rfl) ?_
       refine t_old 8 rfl rfl rfl (l_field rfl fo_76_1) ?_
       refine t_light 9 rfl rfl rfl (L_load rfl (by first | exact d_bp ty_3 | exact ld_rp ty_3 rfl | exact d_ep ty_3)) ?_
       refine t_old 10 rfl rfl rfl (L_bin rfl rfl rfl rfl) ?_
       refine t_old 11 rfl rfl rfl (L_binB rfl bo_4 rfl rfl rfl) ?_
       refine T_done (by kernel_rfl) ?_
       refine G_cond rfl (fun hc73 => ?_) (fun hc73 => ?_)
       ·have hf := allK_not (p := pivP c.vals c.piv) (k := k) (n := c.piv.length) (by rw [hP]; exact nq4 (i := i) (by omega) (by rw [sideP_at hx]; exact bq_no hc73)) (by omega)
        refine G_seq ?_
        refine G_region' (L := [0]) rfl ?_
        refine xas ?_
        refine EOps_nil ?_
        refine G_ret ?_
        refine ⟨_, [], rfl, rfl, bool_eq ?_, rfl⟩
        simp [hf]
       ·refine G_skip ?_
        refine G_region' (L := [0, 1, 2]) rfl ?_
        refine xmv ?_
        refine x_pure rfl rfl rfl (by first | exact l_add rfl rfl rfl | exact L_bin rfl rfl rfl rfl) ?_
        refine xas ?_
        refine EOps_nil ?_
        refine ⟨i + 1, ?_, ?_, rfl, ⟨.inr rfl, trivial⟩, ⟨.inr rfl, .inr rfl, .inr rfl, .inr rfl, .inr rfl, .inr rfl, trivial⟩⟩
        ·first | omega | (dsimp only; omega) | (simp; omega)
        ·exact ⟨by omega, allK_step hside (by rw [sideP_at hx]; exact bq_yes hc73)⟩
      ·have hsides : allK (sideP c.vals p) c.vals.length = true := by
        have : c.vals.length ≤ i := by simpa [ints_len] using hc59
        rwa [show i = c.vals.length by omega] at hside
       refine G_exit ?_
       refine G_region' (L := [0, 1, 2]) rfl ?_
       refine xmv ?_
       refine x_pure rfl rfl rfl (by first | exact l_add rfl rfl rfl | exact L_bin rfl rfl rfl rfl) ?_
       refine xas ?_
       refine EOps_nil ?_
       refine ⟨[], rfl, k + 1, ?_, ?_, rfl, ⟨.inr rfl, trivial⟩, ⟨.inr rfl, .inr rfl, trivial⟩⟩
       ·first | omega | (dsimp only; omega) | (simp; omega)
       ·exact ⟨by omega, allK_step hpiv (by rw [hP]; exact pivQ_yes q1 q2 q3 hsides)⟩
 ·have hf : allK (pivP c.vals c.piv) c.piv.length = true := by
   have : c.piv.length ≤ k := by simpa [pairs_len] using hc11
   rwa [show k = c.piv.length by omega] at hpiv
  refine G_exit ?_
  refine G_seq ?_
  refine G_region' (L := [0]) rfl ?_
  refine xas ?_
  refine EOps_nil ?_
  refine G_ret ?_
  refine ⟨_, [], rfl, rfl, bool_eq ?_, rfl⟩
  simp [hf]

set_option maxRecDepth 20000 in
set_option maxHeartbeats 2000000 in
theorem c_spec_IsCracker (c : Crk) : EFn Tryz.prog 36 [.agg (crkC c)] [] (fun r S => r = .c (.sc (.bool (isCrk c))) ∧ S = []) := by
  refine E_fn Tryz.func36 rfl (Nat.le_of_ble_eq_true rfl) ?_
  refine E_seq ?_
  refine E_region' (L := [0, 1]) rfl ?_
  refine x_box rfl rfl rfl rfl rfl ?_
  refine xas ?_
  refine EOps_nil ?_
  refine E_seq ?_
  refine E_seq ?_
  refine e_tidy [0, 1, 2] ?_
  refine E_region' (L := [0, 1, 2, 3, 4, 5, 6, 7, 8, 9, 10, 11, 12]) rfl ?_
  refine x_pure rfl rfl rfl (l_field rfl fo_29_0) ?_
  refine x_light rfl rfl rfl (L_load rfl (by first | exact d_bp ty_22 | exact ld_rp ty_22 rfl | exact d_ep ty_22)) ?_
  refine x_call rfl rfl rfl rfl rfl ca_22 (c_spec_AreValues c.vals) ?_
  rintro r S ⟨rfl, rfl⟩
  refine x_pure rfl rfl rfl (L_not rfl rfl) ?_
  refine xmv ?_
  refine EOps_split 8 (b := _) rfl (fun hg8 => ?_) (fun hg8 => ?_)
  · have hf : isCrk c = false := by simp_all [isCrk]
    refine x_skip rfl rfl rfl ?_
    refine x_skip rfl rfl rfl ?_
    refine x_skip rfl rfl rfl ?_
    refine x_skip rfl rfl rfl ?_
    refine x_skip rfl rfl rfl ?_
    refine x_skip rfl rfl rfl ?_
    refine x_skip rfl rfl rfl ?_
    refine x_pure rfl rfl rfl (L_pick rfl rfl) ?_
    refine EOps_nil ?_
    refine E_cond rfl (fun hc16 => ?_) (fun hc16 => ?_)
    · have hf : isCrk c = false := by
        first
          | assumption
          | (have hne : ¬ c.rows.length = c.vals.length := by
               simp [ints_len] at hc16; omega
             simp [isCrk, hne])
      refine E_seq ?_
      refine E_region' (L := [0]) rfl ?_
      refine xas ?_
      refine EOps_nil ?_
      refine E_ret ?_
      refine ⟨_, [], rfl, rfl, bool_eq ?_, rfl⟩
      simp [hf]
    · exact Bool.noConfusion (hc16 : true = false)
  · have hv : areVals c.vals = true := by simpa using hg8
    refine x_pure rfl rfl rfl (l_field rfl fo_29_1) ?_
    refine x_light rfl rfl rfl (L_load rfl (by first | exact d_bp ty_22 | exact ld_rp ty_22 rfl | exact d_ep ty_22)) ?_
    refine x_pure rfl rfl rfl (l_len rfl sl_22) ?_
    refine x_pure rfl rfl rfl (l_field rfl fo_29_0) ?_
    refine x_light rfl rfl rfl (L_load rfl (by first | exact d_bp ty_22 | exact ld_rp ty_22 rfl | exact d_ep ty_22)) ?_
    refine x_pure rfl rfl rfl (l_len rfl sl_22) ?_
    refine x_pure rfl rfl rfl (L_bin rfl rfl rfl rfl) ?_
    refine x_pure rfl rfl rfl (L_pick rfl rfl) ?_
    refine EOps_nil ?_
    refine E_cond rfl (fun hc16 => ?_) (fun hc16 => ?_)
    · have hf : isCrk c = false := by
        first
          | assumption
          | (have hne : ¬ c.rows.length = c.vals.length := by
               simp [ints_len] at hc16; omega
             simp [isCrk, hne])
      refine E_seq ?_
      refine E_region' (L := [0]) rfl ?_
      refine xas ?_
      refine EOps_nil ?_
      refine E_ret ?_
      refine ⟨_, [], rfl, rfl, bool_eq ?_, rfl⟩
      simp [hf]
    · have hrl : c.rows.length = c.vals.length := by simp [ints_len] at hc16; omega
      have hvl := (areVals_parts hv).1
      refine E_skip ?_
      refine E_seq ?_
      refine E_seq ?_
      refine E_region' (L := [0]) rfl ?_
      refine xas ?_
      refine EOps_nil ?_
      refine E_block ?_
      refine e_for (α := Nat) [0, 1, 16] (fun k => [(3, .c (.sc (.int .i64 (k))))]) (fun _ => _) (fun k => k ≤ c.rows.length ∧ allK (rowP c.rows) k = true) (fun k => c.rows.length - k) (0) ?_ (rfl) ⟨.inr rfl, trivial⟩ ?_
      · exact ⟨Nat.zero_le _, rfl⟩
      rintro k ⟨hk, hall⟩
      refine E_seq ?_
      refine E_seq ?_
      refine E_region' (L := [0, 1, 2, 3, 4]) rfl ?_
      refine xmv ?_
      refine x_pure rfl rfl rfl (l_field rfl fo_29_1) ?_
      refine x_light rfl rfl rfl (L_load rfl (by first | exact d_bp ty_22 | exact ld_rp ty_22 rfl | exact d_ep ty_22)) ?_
      refine x_pure rfl rfl rfl (l_len rfl sl_22) ?_
      refine x_pure rfl rfl rfl (L_bin rfl rfl rfl rfl) ?_
      refine EOps_nil ?_
      refine E_cond rfl (fun hc21 => ?_) (fun hc21 => ?_)
      · have hc21' : k < (c.rows).length := by simpa [ints_len, bools_len, pairs_len, quads_len, quints_len] using hc21
        obtain ⟨x, hx⟩ : ∃ x, (c.rows)[k]? = some x := ⟨_, List.getElem?_eq_getElem hc21'⟩
        have hR : rowP c.rows k = (isIn x 0 999 && !decide (x ∈ c.rows.take k)) := by rw [rowP, dupP_at hx, getD_of hx]
        refine E_skip ?_
        refine E_seq ?_
        refine E_block ?_
        refine E_seq ?_
        refine e_tidy [0, 1, 2, 3, 16, 21, 42] ?_
        refine E_drawT mixed ?_
        refine t_old 0 rfl rfl rfl (l_field rfl fo_29_1) ?_
        refine t_light 1 rfl rfl rfl (L_load rfl (by first | exact d_bp ty_22 | exact ld_rp ty_22 rfl | exact d_ep ty_22)) ?_
        refine t_old 2 rfl rfl rfl (L_move rfl) ?_
        refine t_old 3 rfl rfl rfl (L_index rfl rfl (by first | exact i_ro sl_22 ty_3 | exact i_sl sl_22 ty_3)) ?_
        refine t_light 4 rfl rfl rfl (L_load rfl (by first | exact d_bp ty_3 | exact ld_rp ty_3 rfl | exact d_ep ty_3)) ?_
        refine t_call 5 rfl rfl rfl rfl rfl ca_34 (c_spec_l1In x 0 999) ?_
        rintro r S ⟨rfl, rfl⟩
        refine t_old 6 rfl rfl rfl (L_not rfl rfl) ?_
        refine t_old 7 rfl rfl rfl (L_move rfl) ?_
        refine T_split 31 (b := _) rfl rfl (fun hg31 => ?_) (fun hg31 => ?_)
        · refine t_skip 8 rfl rfl rfl ?_
          refine t_skip 9 rfl rfl rfl ?_
          refine t_skip 10 rfl rfl rfl ?_
          refine t_skip 11 rfl rfl rfl ?_
          refine t_skip 12 rfl rfl rfl ?_
          refine t_skip 13 rfl rfl rfl ?_
          refine t_skip 14 rfl rfl rfl ?_
          refine t_skip 15 rfl rfl rfl ?_
          refine t_skip 16 rfl rfl rfl ?_
          refine t_skip 17 rfl rfl rfl ?_
          refine t_old 18 rfl rfl rfl (L_pick rfl rfl) ?_
          refine T_done (by kernel_rfl) ?_
          refine E_cond rfl (fun hc42 => ?_) (fun hc42 => ?_)
          · have hf := crk_no_row (c := c) (k := k) (by omega) (by rw [hR]; simp_all)
            refine E_seq ?_
            refine E_region' (L := [0]) rfl ?_
            refine xas ?_
            refine EOps_nil ?_
            refine E_ret ?_
            refine ⟨_, [], rfl, rfl, bool_eq ?_, rfl⟩
            simp [hf]
          · exact Bool.noConfusion (hc42 : true = false)
        · refine t_old 8 rfl rfl rfl (l_field rfl fo_29_1) ?_
          refine t_light 9 rfl rfl rfl (L_load rfl (by first | exact d_bp ty_22 | exact ld_rp ty_22 rfl | exact d_ep ty_22)) ?_
          refine t_old 10 rfl rfl rfl (L_move rfl) ?_
          refine t_old 11 rfl rfl rfl (Pure.as (by first | exact L_slice_ro (l := 0) (h := k) rfl sl_22 ty_3 rfl rfl rfl (by first | omega | (simp [ints_len, pairs_len, quads_len, quints_len, bools_len]; omega) | (simp [ints_len, pairs_len, quads_len, quints_len, bools_len] at *; omega)) (by first | omega | (simp [ints_len, pairs_len, quads_len, quints_len, bools_len]; omega) | (simp [ints_len, pairs_len, quads_len, quints_len, bools_len] at *; omega)) (by first | exact fun r hr => (ints_row _ r hr).1 | exact fun r hr => (pairs_row _ r hr).1 | exact fun r hr => (quads_row _ r hr).1 | exact fun r hr => (quints_row _ r hr).1 | exact fun r hr => (bools_row _ r hr).1) | exact L_slice_sl (l := 0) (h := k) rfl sl_22 ty_3 rfl (by first | rfl | assumption) (by first | assumption | exact ints_len _ | exact pairs_len _ | exact quads_len _ | exact quints_len _ | exact bools_len _ | (simp [ints_len, bools_len, pairs_len, quads_len, quints_len, part_len, *]; done) | (simp [ints_len, bools_len, pairs_len, quads_len, quints_len]; omega) | rfl) rfl rfl (by first | omega | (simp [ints_len, pairs_len, quads_len, quints_len, bools_len]; omega) | (simp [ints_len, pairs_len, quads_len, quints_len, bools_len] at *; omega)) (by first | omega | (simp [ints_len, pairs_len, quads_len, quints_len, bools_len]; omega) | (simp [ints_len, pairs_len, quads_len, quints_len, bools_len] at *; omega))) (y' := .c (.ro (ints (c.rows.take k)))) (by first | (simp [ints_cut, pairs_cut, bools_cut, ints_take, pairs_take, bools_take]; done) | (simp [ints_cut, pairs_cut, bools_cut, ints_take, pairs_take, bools_take]; rfl))) ?_
          refine t_old 12 rfl rfl rfl (l_field rfl fo_29_1) ?_
          refine t_light 13 rfl rfl rfl (L_load rfl (by first | exact d_bp ty_22 | exact ld_rp ty_22 rfl | exact d_ep ty_22)) ?_
          refine t_old 14 rfl rfl rfl (L_move rfl) ?_
          refine t_old 15 rfl rfl rfl (L_index rfl rfl (by first | exact i_ro sl_22 ty_3 | exact i_sl sl_22 ty_3)) ?_
          refine t_light 16 rfl rfl rfl (L_load rfl (by first | exact d_bp ty_3 | exact ld_rp ty_3 rfl | exact d_ep ty_3)) ?_
          refine t_call 17 rfl rfl rfl rfl rfl ca_48 (c_spec_l4Has (c.rows.take k) x) ?_
          rintro r S ⟨rfl, rfl⟩
          refine t_old 18 rfl rfl rfl (L_pick rfl rfl) ?_
          refine T_done (by kernel_rfl) ?_
          refine E_cond rfl (fun hc42 => ?_) (fun hc42 => ?_)
          · have hf := crk_no_row (c := c) (k := k) (by omega) (by rw [hR]; simp_all)
            refine E_seq ?_
            refine E_region' (L := [0]) rfl ?_
            refine xas ?_
            refine EOps_nil ?_
            refine E_ret ?_
            refine ⟨_, [], rfl, rfl, bool_eq ?_, rfl⟩
            simp [hf]
          · refine E_skip ?_
            refine E_region' (L := [0, 1, 2]) rfl ?_
            refine xmv ?_
            refine x_pure rfl rfl rfl (by first | exact l_add rfl rfl rfl | exact L_bin rfl rfl rfl rfl) ?_
            refine xas ?_
            refine EOps_nil ?_
            refine ⟨k + 1, ?_, ?_, rfl, ⟨.inr rfl, trivial⟩, ⟨.inr rfl, .inr rfl, .inr rfl, trivial⟩⟩
            · first | omega | (dsimp only; omega) | (simp; omega)
            · exact ⟨by omega, allK_step hall (by rw [hR]; simp_all)⟩
      · have hrows : allK (rowP c.rows) c.rows.length = true := by
          have : c.rows.length ≤ k := by simpa [ints_len] using hc21
          rwa [show k = c.rows.length by omega] at hall
        have hf : isCrk c = allK (pivP c.vals c.piv) c.piv.length := by simp only [isCrk, hv, hrows, decide_eq_true hrl, Bool.true_and]
        refine E_exit ?_
        refine E_seq ?_
        refine e_tidy [0, 1, 2, 3, 16, 21, 42] ?_
        refine E_region' (L := [0, 1, 2, 3, 4, 5]) rfl ?_
        refine x_pure rfl rfl rfl (l_field rfl fo_29_0) ?_
        refine x_light rfl rfl rfl (L_load rfl (by first | exact d_bp ty_22 | exact ld_rp ty_22 rfl | exact d_ep ty_22)) ?_
        refine x_pure rfl rfl rfl (l_field rfl fo_29_2) ?_
        refine x_light rfl rfl rfl (L_load rfl (by first | exact d_bp ty_27 | exact ld_rp ty_27 rfl | exact d_ep ty_27)) ?_
        refine x_call rfl rfl rfl rfl rfl ca_49 (c_spec_l4Pivots c) ?_
        rintro r S ⟨rfl, rfl⟩
        refine xas ?_
        refine EOps_nil ?_
        refine E_ret ?_
        refine ⟨_, [], rfl, rfl, bool_eq ?_, rfl⟩
        simp [hf]

end Go.Proofs.YthnadkagchbhbaaGreat.E
