/- Walks through functions, by program out of the session's annotations. -/
import Derived.Test.YthnadkagchbhbaaGreatA01
namespace Go.Proofs.YthnadkagchbhbaaGreat.E
open Go Go.RowKit Go.Proofs
set_option linter.unusedVariables false
set_option linter.unusedSimpArgs false

/-- Are all numbers such as a column holds? -/
def areVals (xs : List Int) : Bool := decide (xs.length ≤ 64) && xs.all (fun x => decide (-999 ≤ x) && decide (x ≤ 999))
def isIn (x lo hi : Int) : Bool := decide (lo ≤ x) && decide (x ≤ hi)
def fIdx (p : Int → Bool) (xs : List Int) : Int := if xs.any p = true then ((xs.findIdx p : Nat) : Int) else -1
theorem fIdx_at {p : Int → Bool} {xs : List Int} {k : Nat} {x : Int} (h : (xs.take k).any p = false) (hx : xs[k]? = some x) (hp : p x = true) : fIdx p xs = k := by
 have hk : k < xs.length := by
  rcases Nat.lt_or_ge k xs.length with h' | h'
  ·exact h'
  ·rw [List.getElem?_eq_none h'] at hx; cases hx
 have he : xs[k] = x := by rw [List.getElem?_eq_getElem hk] at hx; exact Option.some.inj hx
 have h1 : xs.any p = true := List.any_eq_true.2 ⟨x, List.mem_of_getElem? hx, hp⟩
 have h2 : xs.findIdx p = k := by
  rw [List.findIdx_eq hk]
  refine ⟨by rw [he]; exact hp, fun j hj => ?_⟩
  have := List.any_eq_false.1 h xs[j] (List.mem_of_getElem? (i := j) (by rw [List.getElem?_take, if_pos hj]; exact List.getElem?_eq_getElem (by omega)))
  simpa using this
 rw [fIdx, if_pos h1, h2]
theorem fIdx_none {p : Int → Bool} {xs : List Int} (h : xs.any p = false) : fIdx p xs = -1 := by simp [fIdx, h]
theorem any_take {p : Int → Bool} {xs : List Int} {k : Nat} {x : Int} (h : (xs.take k).any p = false) (hx : xs[k]? = some x) (hp : p x = false) : (xs.take (k + 1)).any p = false := by
 rw [List.take_add_one, hx, List.any_append, h]; simp [hp]
theorem all_take {p : Int → Bool} {xs : List Int} {k : Nat} {x : Int} (h : (xs.take k).all p = true) (hx : xs[k]? = some x) (hp : p x = true) : (xs.take (k + 1)).all p = true := by
 rw [List.take_add_one, hx, List.all_append, h]; simp [hp]
theorem not_all {p : Int → Bool} {xs : List Int} {k : Nat} {x : Int} (hx : xs[k]? = some x) (hp : p x = false) : xs.all p = false := by
 rw [List.all_eq_false]; exact ⟨x, List.mem_of_getElem? hx, by simp [hp]⟩

set_option maxRecDepth 20000 in
set_option maxHeartbeats 2000000 in
theorem c_spec_l1In (x lo hi : Int) : EFn Tryz.prog 34 [.c (.sc (.int .i64 x)), .c (.sc (.int .i64 lo)), .c (.sc (.int .i64 hi))] [] (fun r S => r = .c (.sc (.bool (isIn x lo hi))) ∧ S = []) := by
 refine E_fn Tryz.func34 rfl (Nat.le_of_ble_eq_true rfl) ?_
 refine E_seq ?_
 refine E_region' (L := [0]) rfl ?_
 refine xas ?_
 refine EOps_nil ?_
 refine E_seq ?_
 refine E_region' (L := [0, 1, 2, 3, 4, 5, 6, 7, 8]) rfl ?_
 refine xmv ?_
 refine xmv ?_
 refine x_pure rfl rfl rfl (L_bin rfl rfl rfl rfl) ?_
 refine xmv ?_
 refine EOps_split 10 (b := _) rfl (fun hg10 => ?_) (fun hg10 => ?_)
 ·refine xmv ?_
  refine xmv ?_
  refine x_pure rfl rfl rfl (L_bin rfl rfl rfl rfl) ?_
  refine x_pure rfl rfl rfl (L_pick rfl rfl) ?_
  refine xas ?_
  refine EOps_nil ?_
  refine E_ret ?_
  refine ⟨_, [], rfl, rfl, bool_eq ?_, rfl⟩
  first | (simp [isIn, hg10]; done) | (simp [isIn, hg10]; omega) | (simp [isIn, hg10]; intros; omega) | (simp [isIn, hg10] at *; intros; omega) | simp_all [isIn, hg10] | (simp_all [isIn, hg10]; omega)
 ·refine x_skip rfl rfl rfl ?_
  refine x_skip rfl rfl rfl ?_
  refine x_skip rfl rfl rfl ?_
  refine x_pure rfl rfl rfl (L_pick rfl rfl) ?_
  refine xas ?_
  refine EOps_nil ?_
  refine E_ret ?_
  refine ⟨_, [], rfl, rfl, bool_eq ?_, rfl⟩
  first | (simp [isIn, hg10]; done) | (simp [isIn, hg10]; omega) | (simp [isIn, hg10]; intros; omega) | (simp [isIn, hg10] at *; intros; omega) | simp_all [isIn, hg10] | (simp_all [isIn, hg10]; omega)

set_option maxRecDepth 20000 in
set_option maxHeartbeats 2000000 in
theorem c_spec_AreValues (xs : List Int) : EFn Tryz.prog 22 [.c (.ro (ints xs))] [] (fun r S => r = .c (.sc (.bool (areVals xs))) ∧ S = []) := by
 refine E_fn Tryz.func22 rfl (Nat.le_of_ble_eq_true rfl) ?_
 refine E_bound (t := 0) (rows := ints xs) rfl fun hb => ?_
 rw [ints_len] at hb
 refine E_seq ?_
 refine E_region' (L := [0]) rfl ?_
 refine xas ?_
 refine EOps_nil ?_
 refine E_seq ?_
 refine E_seq ?_
 refine E_region' (L := [0]) rfl ?_
 refine xas ?_
 refine EOps_nil ?_
 refine E_block ?_
 refine e_for (α := Nat) [0] (fun k => [(3, .c (.sc (.int .i64 (k))))]) (fun _ => _) (fun k => k ≤ xs.length ∧ (xs.take k).all (fun x => decide (-999 ≤ x) && decide (x ≤ 999)) = true) (fun k => xs.length - k) (0) ?_ (rfl) ⟨.inr rfl, trivial⟩ ?_
 ·simp
 rintro k ⟨hk, hall⟩
 refine E_seq ?_
 refine E_seq ?_
 refine E_region' (L := [0, 1, 2, 3]) rfl ?_
 refine xmv ?_
 refine xmv ?_
 refine x_pure rfl rfl rfl (l_len rfl sl_22) ?_
 refine x_pure rfl rfl rfl (L_bin rfl rfl rfl rfl) ?_
 refine EOps_nil ?_
 refine E_cond rfl (fun hc7 => ?_) (fun hc7 => ?_)
 ·have hc7' : k < (xs).length := by simpa [ints_len, bools_len, pairs_len, quads_len, quints_len] using hc7
  obtain ⟨x, hx⟩ : ∃ x, (xs)[k]? = some x := ⟨_, List.getElem?_eq_getElem hc7'⟩
  refine E_skip ?_
  refine E_seq ?_
  refine E_block ?_
  refine E_seq ?_
  refine E_region' (L := [0, 1, 2, 3, 4, 5]) rfl ?_
  refine xmv ?_
  refine xmv ?_
  refine x_pure rfl rfl rfl (L_index rfl rfl (by first | exact i_ro sl_22 ty_3 | exact i_sl sl_22 ty_3)) ?_
  refine x_light rfl rfl rfl (L_load rfl (by first | exact d_bp ty_3 | exact ld_rp ty_3 rfl | exact d_ep ty_3)) ?_
  refine x_call rfl rfl rfl rfl rfl ca_34 (c_spec_l1In x (-999) 999) ?_
  rintro r S ⟨rfl, rfl⟩
  refine x_pure rfl rfl rfl (L_not rfl rfl) ?_
  refine EOps_nil ?_
  refine E_cond rfl (fun hc15 => ?_) (fun hc15 => ?_)
  ·have hf : xs.all (fun x => decide (-999 ≤ x) && decide (x ≤ 999)) = false := not_all hx (by simp [isIn] at hc15 ⊢; omega)
   refine E_seq ?_
   refine E_region' (L := [0]) rfl ?_
   refine xas ?_
   refine EOps_nil ?_
   refine E_ret ?_
   refine ⟨_, [], rfl, rfl, ?_, rfl⟩
   simp [AV.ren, ren_sc, ren_ro, AC.ren, AC.ren.rens, ix, rv1, E.get, E.ev, E.cv, E.fill', E.fill, E.slotsOf, areVals, hf]
  ·refine E_skip ?_
   refine E_region' (L := [0, 1, 2]) rfl ?_
   refine xmv ?_
   refine x_pure rfl rfl rfl (by first | exact l_add rfl rfl rfl | exact L_bin rfl rfl rfl rfl) ?_
   refine xas ?_
   refine EOps_nil ?_
   refine ⟨k + 1, ?_, ?_, rfl, ⟨.inr rfl, trivial⟩, ⟨.inr rfl, trivial⟩⟩
   ·first | omega | (dsimp only; omega) | (simp; omega)
   ·exact ⟨by omega, all_take hall hx (by simp [isIn] at hc15 ⊢; omega)⟩
 ·have hk' : xs.length ≤ k := by simpa [ints_len] using hc7
  rw [List.take_of_length_le hk'] at hall
  refine E_exit ?_
  refine E_seq ?_
  refine E_region' (L := [0, 1, 2, 3]) rfl ?_
  refine xmv ?_
  refine x_pure rfl rfl rfl (l_len rfl sl_22) ?_
  refine x_pure rfl rfl rfl (L_bin rfl rfl rfl rfl) ?_
  refine xas ?_
  refine EOps_nil ?_
  refine E_ret ?_
  refine ⟨_, [], rfl, rfl, bool_eq ?_, rfl⟩
  first | (simp [areVals, hall, ints_len]; done) | (simp [areVals, hall, ints_len]; omega) | (simp [areVals, hall, ints_len]; intros; omega) | (simp [areVals, hall, ints_len] at *; intros; omega) | simp_all [areVals, hall, ints_len] | (simp_all [areVals, hall, ints_len]; omega)

set_option maxRecDepth 20000 in
set_option maxHeartbeats 2000000 in
theorem c_impl_within_1 (R : List Res) (i j : Nat) (lo hi x : Int) (h1 : R[i]? = some (.box [.sc (.int .i64 lo)])) (h2 : R[j]? = some (.box [.sc (.int .i64 hi)])) : EFn Tryz.prog 66 [.c (.sc (.int .i64 x)), .c (.bp i 0), .c (.bp j 0)] R (fun r R' => r = .c (.sc (.bool (decide (x < lo) || decide (x > hi)))) ∧ R' = R) := by
 refine E_fnS Tryz.func66 rfl (Nat.le_of_ble_eq_true rfl) ?_
 refine E_seq ?_
 refine E_region' (L := [0]) rfl ?_
 refine xas ?_
 refine EOps_nil ?_
 refine E_seq ?_
 refine E_region' (L := [0, 1, 2, 3, 4, 5, 6, 7, 8]) rfl ?_
 refine xmv ?_
 refine x_light rfl rfl rfl (L_load rfl (by first | exact d_bp ty_3 | exact ld_rp ty_3 rfl | exact d_ep ty_3)) ?_
 refine x_pure rfl rfl rfl (L_bin rfl rfl rfl rfl) ?_
 refine xmv ?_
 refine EOps_split 8 (b := _) rfl (fun hg8 => ?_) (fun hg8 => ?_)
 ·refine x_skip rfl rfl rfl ?_
  refine x_skip rfl rfl rfl ?_
  refine x_skip rfl rfl rfl ?_
  refine x_pure rfl rfl rfl (L_pick rfl rfl) ?_
  refine xas ?_
  refine EOps_nil ?_
  refine E_ret ?_
  refine ⟨_, rfl, rfl, ?_⟩
  first | (simp [AV.ren, ren_sc, ren_ro, AC.ren, AC.ren.rens, ix, rv1, E.get, E.ev, E.cv, E.fill', E.fill, E.slotsOf, *]; done) | simp_all [AV.ren, ren_sc, ren_ro, AC.ren, AC.ren.rens, ix, rv1, E.get, E.ev, E.cv, E.fill', E.fill, E.slotsOf]
 ·refine xmv ?_
  refine x_light rfl rfl rfl (L_load rfl (by first | exact d_bp ty_3 | exact ld_rp ty_3 rfl | exact d_ep ty_3)) ?_
  refine x_pure rfl rfl rfl (L_bin rfl rfl rfl rfl) ?_
  refine x_pure rfl rfl rfl (L_pick rfl rfl) ?_
  refine xas ?_
  refine EOps_nil ?_
  refine E_ret ?_
  refine ⟨_, rfl, rfl, ?_⟩
  first | (simp [AV.ren, ren_sc, ren_ro, AC.ren, AC.ren.rens, ix, rv1, E.get, E.ev, E.cv, E.fill', E.fill, E.slotsOf, *]; done) | simp_all [AV.ren, ren_sc, ren_ro, AC.ren, AC.ren.rens, ix, rv1, E.get, E.ev, E.cv, E.fill', E.fill, E.slotsOf]

set_option maxRecDepth 20000 in
set_option maxHeartbeats 2000000 in
theorem c_slices_IndexFunc___int_int_ (xs : List Int) (p : Int → Bool) (f : FuncId) (caps : List AC) (R : List Res) (hf : callable Tryz.prog f = true) (hp : ∀ x ∈ xs, EFn Tryz.prog f (.c (.sc (.int .i64 x)) :: caps.map .c) R (fun r R' => r = .c (.sc (.bool (p x))) ∧ R' = R)) : EFn Tryz.prog 79 [.c (.ro (ints xs)), .c (.fn f caps)] R (fun r R' => r = .c (.sc (.int .i64 (fIdx p xs))) ∧ R' = R) := by
 refine E_fnS Tryz.func79 rfl (Nat.le_of_ble_eq_true rfl) ?_
 refine E_bound (t := 0) (rows := ints xs) rfl fun hb => ?_
 rw [ints_len] at hb
 refine E_seq ?_
 refine E_region' (L := [0]) rfl ?_
 refine xas ?_
 refine EOps_nil ?_
 refine E_seq ?_
 refine E_seq ?_
 refine E_region' (L := [0, 1, 2]) rfl ?_
 refine xmv ?_
 refine x_pure rfl rfl rfl (l_len rfl sl_22) ?_
 refine xmv ?_
 refine EOps_nil ?_
 refine E_block ?_
 refine e_for (α := Nat) [0, 1, 7] (fun k => [(8, .c (.sc (.int .i64 (k)))), (5, .any)]) (fun _ => _) (fun k => k ≤ xs.length ∧ (xs.take k).any p = false) (fun k => xs.length - k) (0) ?_ (rfl) ⟨.inr rfl, .inl rfl, trivial⟩ ?_
 ·simp
 rintro k ⟨hk, hany⟩
 refine E_seq ?_
 refine E_region' (L := [0]) rfl ?_
 refine x_pure rfl rfl rfl (L_bin rfl rfl rfl rfl) ?_
 refine EOps_nil ?_
 refine E_seq ?_
 refine E_cond rfl (fun hc9 => ?_) (fun hc9 => ?_)
 ·have hc9' : k < (xs).length := by simpa [ints_len, bools_len, pairs_len, quads_len, quints_len] using hc9
  obtain ⟨x, hx⟩ : ∃ x, (xs)[k]? = some x := ⟨_, List.getElem?_eq_getElem hc9'⟩
  refine E_skip ?_
  refine E_seq ?_
  refine E_block ?_
  refine E_seq ?_
  refine E_region' (L := [0, 1]) rfl ?_
  refine xmv ?_
  refine xas ?_
  refine EOps_nil ?_
  refine E_seq ?_
  refine E_region' (L := [0, 1, 2, 3, 4, 5]) rfl ?_
  refine xmv ?_
  refine xmv ?_
  refine xmv ?_
  refine x_pure rfl rfl rfl (L_index rfl rfl (by first | exact i_ro sl_22 ty_3 | exact i_sl sl_22 ty_3)) ?_
  refine x_light rfl rfl rfl (L_load rfl (by first | exact d_bp ty_3 | exact ld_rp ty_3 rfl | exact d_ep ty_3)) ?_
  refine EOps_go rfl rfl (EOp_call1 rfl rfl (by decide) rfl (by assumption) ((hp x (List.mem_of_getElem? hx))) (by refine cons_eq ?_ (rfl) <;> first | (refine lend_whole rfl ?_; first | assumption | exact ints_len _ | exact pairs_len _ | exact quads_len _ | exact quints_len _ | exact bools_len _ | (simp [ints_len, bools_len, pairs_len, quads_len, quints_len, part_len, *]; done) | (simp [ints_len, bools_len, pairs_len, quads_len, quints_len]; omega) | rfl) | (refine agg_eq ?_; repeat' (first | (refine lendC_whole rfl ?_; first | assumption | exact ints_len _ | exact pairs_len _ | exact quads_len _ | exact quints_len _ | exact bools_len _ | (simp [ints_len, bools_len, pairs_len, quads_len, quints_len, part_len, *]; done) | (simp [ints_len, bools_len, pairs_len, quads_len, quints_len]; omega) | rfl) | refine cons_eq ?_ ?_ | rfl)) | rfl | simp [E.lend, E.lendC, E.ev, E.cv, E.get, E.fill', E.fill, AV.sh, AC.sh, Res.sh, ints_len, *]) ?_)
  rintro r S ⟨rfl, rfl⟩
  refine EOps_nil ?_
  refine E_cond rfl (fun hc16 => ?_) (fun hc16 => ?_)
  ·have he := fIdx_at hany hx hc16
   refine E_seq ?_
   refine E_region' (L := [0, 1]) rfl ?_
   refine xmv ?_
   refine xas ?_
   refine EOps_nil ?_
   refine E_ret ?_
   refine ⟨_, rfl, rfl, ?_⟩
   first | (simp [AV.ren, ren_sc, ren_ro, AC.ren, AC.ren.rens, ix, rv1, E.get, E.ev, E.cv, E.fill', E.fill, E.slotsOf, *]; done) | simp_all [AV.ren, ren_sc, ren_ro, AC.ren, AC.ren.rens, ix, rv1, E.get, E.ev, E.cv, E.fill', E.fill, E.slotsOf]
  ·refine E_skip ?_
   refine E_region' (L := [0, 1]) rfl ?_
   refine x_pure rfl rfl rfl (by first | exact l_add rfl rfl rfl | exact L_bin rfl rfl rfl rfl) ?_
   refine xmv ?_
   refine EOps_nil ?_
   refine ⟨k + 1, ?_, ?_, rfl, ⟨.inr rfl, .inl rfl, trivial⟩, ⟨.inr rfl, .inr rfl, .inr rfl, trivial⟩⟩
   ·first | omega | (dsimp only; omega) | (simp; omega)
   ·exact ⟨by omega, any_take hany hx hc16⟩
 ·have hk' : xs.length ≤ k := by simpa [ints_len] using hc9
  rw [List.take_of_length_le hk'] at hany
  have he := fIdx_none hany
  refine E_exit ?_
  refine E_seq ?_
  refine E_region' (L := [0]) rfl ?_
  refine xas ?_
  refine EOps_nil ?_
  refine E_ret ?_
  refine ⟨_, rfl, rfl, ?_⟩
  first | (simp [AV.ren, ren_sc, ren_ro, AC.ren, AC.ren.rens, ix, rv1, E.get, E.ev, E.cv, E.fill', E.fill, E.slotsOf, *]; done) | simp_all [AV.ren, ren_sc, ren_ro, AC.ren, AC.ren.rens, ix, rv1, E.get, E.ev, E.cv, E.fill', E.fill, E.slotsOf]

set_option maxRecDepth 20000 in
set_option maxHeartbeats 2000000 in
theorem c_slices_ContainsFunc___int_int_ (xs : List Int) (p : Int → Bool) (f : FuncId) (caps : List AC) (R : List Res) (hf : callable Tryz.prog f = true) (hp : ∀ x ∈ xs, EFn Tryz.prog f (.c (.sc (.int .i64 x)) :: caps.map .c) R (fun r R' => r = .c (.sc (.bool (p x))) ∧ R' = R)) : EFn Tryz.prog 65 [.c (.ro (ints xs)), .c (.fn f caps)] R (fun r R' => r = .c (.sc (.bool (xs.any p))) ∧ R' = R) := by
 refine E_fnS Tryz.func65 rfl (Nat.le_of_ble_eq_true rfl) ?_
 refine E_seq ?_
 refine E_region' (L := [0]) rfl ?_
 refine xas ?_
 refine EOps_nil ?_
 refine E_seq ?_
 refine E_region' (L := [0, 1, 2, 3, 4]) rfl ?_
 refine xmv ?_
 refine xmv ?_
 refine EOps_go rfl rfl (EOp_call1 rfl rfl (by decide) rfl ca_79 ((c_slices_IndexFunc___int_int_ xs p f caps R hf hp)) (by refine cons_eq ?_ (cons_eq ?_ (rfl)) <;> first | (refine lend_whole rfl ?_; first | assumption | exact ints_len _ | exact pairs_len _ | exact quads_len _ | exact quints_len _ | exact bools_len _ | (simp [ints_len, bools_len, pairs_len, quads_len, quints_len, part_len, *]; done) | (simp [ints_len, bools_len, pairs_len, quads_len, quints_len]; omega) | rfl) | (refine agg_eq ?_; repeat' (first | (refine lendC_whole rfl ?_; first | assumption | exact ints_len _ | exact pairs_len _ | exact quads_len _ | exact quints_len _ | exact bools_len _ | (simp [ints_len, bools_len, pairs_len, quads_len, quints_len, part_len, *]; done) | (simp [ints_len, bools_len, pairs_len, quads_len, quints_len]; omega) | rfl) | refine cons_eq ?_ ?_ | rfl)) | rfl | simp [E.lend, E.lendC, E.ev, E.cv, E.get, E.fill', E.fill, AV.sh, AC.sh, Res.sh, ints_len, *]) ?_)
 rintro r S ⟨rfl, rfl⟩
 refine x_pure rfl rfl rfl (L_bin rfl rfl rfl rfl) ?_
 refine xas ?_
 refine EOps_nil ?_
 refine E_ret ?_
 refine ⟨_, rfl, rfl, ?_⟩
 cases h : xs.any p <;> simp [AV.ren, ren_sc, ren_ro, AC.ren, AC.ren.rens, ix, rv1, E.get, E.ev, E.cv, E.fill', E.fill, E.slotsOf, fIdx, h]

set_option maxRecDepth 20000 in
set_option maxHeartbeats 2000000 in
theorem c_impl_within (xs : List Int) (lo hi : Int) : EFn Tryz.prog 53 [.c (.ro (ints xs)), .c (.sc (.int .i64 lo)), .c (.sc (.int .i64 hi))] [] (fun r S => r = .c (.sc (.bool (xs.all fun x => decide (lo ≤ x) && decide (x ≤ hi)))) ∧ S = []) := by
 refine E_fn Tryz.func53 rfl (Nat.le_of_ble_eq_true rfl) ?_
 refine E_seq ?_
 refine E_region' (L := [0, 1, 2]) rfl ?_
 refine x_box rfl rfl rfl rfl rfl ?_
 refine x_box rfl rfl rfl rfl rfl ?_
 refine xas ?_
 refine EOps_nil ?_
 refine E_seq ?_
 refine E_region' (L := [0, 1, 2, 3, 4]) rfl ?_
 refine xmv ?_
 refine x_pure rfl rfl rfl (L_func rfl rfl) ?_
 refine EOps_go rfl rfl (EOp_call1 rfl rfl (by decide) rfl ca_65 ((c_slices_ContainsFunc___int_int_ xs (fun x => decide (x < lo) || decide (x > hi)) 66 [.bp 0 0, .bp 1 0] _ ca_66 (fun x _ => c_impl_within_1 _ 0 1 lo hi x rfl rfl))) (by refine cons_eq ?_ (cons_eq ?_ (rfl)) <;> first | (refine lend_whole rfl ?_; first | assumption | exact ints_len _ | exact pairs_len _ | exact quads_len _ | exact quints_len _ | exact bools_len _ | (simp [ints_len, bools_len, pairs_len, quads_len, quints_len, part_len, *]; done) | (simp [ints_len, bools_len, pairs_len, quads_len, quints_len]; omega) | rfl) | (refine agg_eq ?_; repeat' (first | (refine lendC_whole rfl ?_; first | assumption | exact ints_len _ | exact pairs_len _ | exact quads_len _ | exact quints_len _ | exact bools_len _ | (simp [ints_len, bools_len, pairs_len, quads_len, quints_len, part_len, *]; done) | (simp [ints_len, bools_len, pairs_len, quads_len, quints_len]; omega) | rfl) | refine cons_eq ?_ ?_ | rfl)) | rfl | simp [E.lend, E.lendC, E.ev, E.cv, E.get, E.fill', E.fill, AV.sh, AC.sh, Res.sh, ints_len, *]) ?_)
 rintro r S ⟨rfl, rfl⟩
 refine x_pure rfl rfl rfl (L_not rfl rfl) ?_
 refine xas ?_
 refine EOps_nil ?_
 refine E_ret ?_
 refine ⟨_, [], rfl, rfl, bool_eq ?_, rfl⟩
 simp

set_option maxRecDepth 20000 in
set_option maxHeartbeats 2000000 in
theorem c_impl_AreValues (xs : List Int) : EFn Tryz.prog 41 [.c (.ro (ints xs))] [] (fun r S => r = .c (.sc (.bool (areVals xs))) ∧ S = []) := by
 refine E_fn Tryz.func41 rfl (Nat.le_of_ble_eq_true rfl) ?_
 refine E_seq ?_
 refine E_region' (L := [0]) rfl ?_
 refine xas ?_
 refine EOps_nil ?_
 refine E_seq ?_
 refine E_region' (L := [0, 1, 2, 3, 4, 5, 6, 7]) rfl ?_
 refine xmv ?_
 refine x_pure rfl rfl rfl (l_len rfl sl_22) ?_
 refine x_pure rfl rfl rfl (L_bin rfl rfl rfl rfl) ?_
 refine xmv ?_
 refine EOps_split 6 (b := _) rfl (fun hg6 => ?_) (fun hg6 => ?_)
 ·refine xmv ?_
  refine x_call rfl rfl rfl rfl rfl ca_53 (c_impl_within xs (-999) 999) ?_
  rintro r S ⟨rfl, rfl⟩
  refine x_pure rfl rfl rfl (L_pick rfl rfl) ?_
  refine xas ?_
  refine EOps_nil ?_
  refine E_ret ?_
  refine ⟨_, [], rfl, rfl, bool_eq ?_, rfl⟩
  first | (simp [areVals, ints_len]; done) | (simp [areVals, ints_len]; omega) | (simp [areVals, ints_len]; intros; omega) | (simp [areVals, ints_len] at *; intros; omega) | simp_all [areVals, ints_len] | (simp_all [areVals, ints_len]; omega)
 ·refine x_skip rfl rfl rfl ?_
  refine x_skip rfl rfl rfl ?_
  refine x_pure rfl rfl rfl (L_pick rfl rfl) ?_
  refine xas ?_
  refine EOps_nil ?_
  refine E_ret ?_
  refine ⟨_, [], rfl, rfl, bool_eq ?_, rfl⟩
  first | (simp [areVals, ints_len]; done) | (simp [areVals, ints_len]; omega) | (simp [areVals, ints_len]; intros; omega) | (simp [areVals, ints_len] at *; intros; omega) | simp_all [areVals, ints_len] | (simp_all [areVals, ints_len]; omega)

end Go.Proofs.YthnadkagchbhbaaGreat.E
