/- Walks through functions, by program out of the session's annotations. -/
import Derived.Test.YthnadkagchbhbaaGreatA180
import Derived.Test.YthnadkagchbhbaaGreatA111
namespace Go.Proofs.YthnadkagchbhbaaGreat.E
open Go Go.RowKit Go.Proofs
set_option linter.unusedVariables false
set_option linter.unusedSimpArgs false

def rngG (r : Int × Int) : Int := if isRng r = true then 0 else 1
theorem rngG_q (r : Int × Int) : decide (rngG r = 1) = !isRng r := by
 unfold rngG; cases isRng r <;> rfl
theorem rng_any (xs : List (Int × Int)) : (xs.map rngG).any (fun y => decide (y = 1)) = !(xs.all isRng) := by
 induction xs with
 | nil => rfl
 | cons x xs ih => rw [List.map_cons, List.any_cons, ih, rngG_q, List.all_cons, Bool.not_and]
def areR (rs : List (Int × Int)) : Bool := decide (rs.length ≤ 30) && rs.all isRng
def areQ (xs : List Int) (s : Sett) (rs : List (Int × Int)) : Bool := areVals xs && isSet s && areR rs
theorem areQ_parts {xs : List Int} {s : Sett} {rs : List (Int × Int)} (h : areQ xs s rs = true) : areVals xs = true ∧ isSet s = true ∧ rs.length ≤ 30 ∧ ∀ r ∈ rs, isRng r = true := by
 simp only [areQ, areR, Bool.and_eq_true, decide_eq_true_eq, List.all_eq_true] at h
 exact ⟨h.1.1, h.1.2, h.2.1, h.2.2⟩
theorem allP_take {p : Int × Int → Bool} {xs : List (Int × Int)} {k : Nat} {x : Int × Int} (h : (xs.take k).all p = true) (hx : xs[k]? = some x) (hp : p x = true) : (xs.take (k + 1)).all p = true := by
 rw [List.take_add_one, hx, List.all_append, h]; simp [hp]
theorem notP_all {p : Int × Int → Bool} {xs : List (Int × Int)} {k : Nat} {x : Int × Int} (hx : xs[k]? = some x) (hp : p x = false) : xs.all p = false := by
 rw [List.all_eq_false]; exact ⟨x, List.mem_of_getElem? hx, by simp [hp]⟩

set_option maxRecDepth 20000 in
set_option maxHeartbeats 2000000 in
theorem c_impl_areRanges_1 (x : Int × Int) : EFn Tryz.prog 55 [.agg [.sc (.int .i64 x.1), .sc (.int .i64 x.2)]] [] (fun r S => r = .c (.sc (.bool (decide (rngG x = 1)))) ∧ S = []) := by
 refine E_fn Tryz.func55 rfl (Nat.le_of_ble_eq_true rfl) ?_
 refine E_seq ?_
 refine E_region' (L := [0, 1]) rfl ?_
 refine x_box rfl rfl rfl rfl rfl ?_
 refine xas ?_
 refine EOps_nil ?_
 refine E_seq ?_
 refine E_region' (L := [0, 1, 2, 3]) rfl ?_
 refine x_light rfl rfl rfl (L_load rfl (by first | exact d_bp ty_54 | exact ld_rp ty_54 rfl | exact d_ep ty_54)) ?_
 refine x_call rfl rfl rfl rfl rfl ca_56 (c_impl_IsRange x) ?_
 rintro r S ⟨rfl, rfl⟩
 refine x_pure rfl rfl rfl (L_not rfl rfl) ?_
 refine xas ?_
 refine EOps_nil ?_
 refine E_ret ?_
 rw [rngG_q]
 exact ⟨_, [], rfl, rfl, rfl, rfl⟩

set_option maxRecDepth 20000 in
set_option maxHeartbeats 2000000 in
theorem c_slices_IndexFunc___impl_Range_impl_Range_ (xs : List (Int × Int)) (g : Int × Int → Int) (q : Int → Bool) (f : FuncId) (caps : List AC) (R : List Res) (hf : callable Tryz.prog f = true) (hp : ∀ x ∈ xs, EFn Tryz.prog f (.agg [.sc (.int .i64 x.1), .sc (.int .i64 x.2)] :: caps.map .c) R (fun r R' => r = .c (.sc (.bool (q (g x)))) ∧ R' = R)) : EFn Tryz.prog 67 [.c (.ro (pairs xs)), .c (.fn f caps)] R (fun r R' => r = .c (.sc (.int .i64 (fIdx q (xs.map g)))) ∧ R' = R) := by
 refine E_fnS Tryz.func67 rfl (Nat.le_of_ble_eq_true rfl) ?_
 refine E_bound (t := 0) (rows := pairs xs) rfl fun hb => ?_
 rw [pairs_len] at hb
 refine E_seq ?_
 refine E_region' (L := [0]) rfl ?_
 refine xas ?_
 refine EOps_nil ?_
 refine E_seq ?_
 refine E_seq ?_
 refine E_region' (L := [0, 1, 2]) rfl ?_
 refine xmv ?_
 refine x_pure rfl rfl rfl (l_len rfl sl_36) ?_
 refine xmv ?_
 refine EOps_nil ?_
 refine E_block ?_
 refine e_for (α := Nat) [0, 1, 7] (fun k => [(8, .c (.sc (.int .i64 (k)))), (5, .any)]) (fun _ => _) (fun k => k ≤ xs.length ∧ ((xs.map g).take k).any q = false) (fun k => xs.length - k) (0) ?_ (rfl) ⟨.inr rfl, .inl rfl, trivial⟩ ?_
 ·simp
 rintro k ⟨hk, hany⟩
 refine E_seq ?_
 refine E_region' (L := [0]) rfl ?_
 refine x_pure rfl rfl rfl (L_bin rfl rfl rfl rfl) ?_
 refine EOps_nil ?_
 refine E_seq ?_
 refine E_cond rfl (fun hc9 => ?_) (fun hc9 => ?_)
 ·have hc9' : k < (xs).length := by simpa [ints_len, bools_len, pairs_len, quads_len, quints_len] using hc9
  obtain ⟨x, hx⟩ : ∃ x, (xs)[k]? = some x := ⟨_, List.getElem?_eq_getElem hc9'⟩
  have hgx : (xs.map g)[k]? = some (g x) := by rw [List.getElem?_map, hx]; rfl
  refine E_skip ?_
  refine E_seq ?_
  refine E_block ?_
  refine E_seq ?_
  refine E_region' (L := [0, 1]) rfl ?_
  refine xmv ?_
  refine xas ?_
  refine EOps_nil ?_
  refine E_seq ?_
  refine E_region' (L := [0, 1, 2, 3, 4, 5]) rfl ?_
  refine xmv ?_
  refine xmv ?_
  refine xmv ?_
  refine x_pure rfl rfl rfl (L_index rfl rfl (by first | exact i_ro sl_36 ty_54 | exact i_sl sl_36 ty_54)) ?_
  refine x_light rfl rfl rfl (L_load rfl (by first | exact d_bp ty_54 | exact ld_rp ty_54 rfl | exact d_ep ty_54)) ?_
  refine EOps_go rfl rfl (EOp_call1 rfl rfl (by decide) rfl (by assumption) ((hp x (List.mem_of_getElem? hx))) (by refine cons_eq ?_ (rfl) <;> first | (refine lend_whole rfl ?_; first | assumption | exact ints_len _ | exact pairs_len _ | exact quads_len _ | exact quints_len _ | exact bools_len _ | (simp [ints_len, bools_len, pairs_len, quads_len, quints_len, part_len, *]; done) | (simp [ints_len, bools_len, pairs_len, quads_len, quints_len]; omega) | rfl) | (refine agg_eq ?_; repeat' (first | (refine lendC_whole rfl ?_; first | assumption | exact ints_len _ | exact pairs_len _ | exact quads_len _ | exact quints_len _ | exact bools_len _ | (simp [ints_len, bools_len, pairs_len, quads_len, quints_len, part_len, *]; done) | (simp [ints_len, bools_len, pairs_len, quads_len, quints_len]; omega) | rfl) | refine cons_eq ?_ ?_ | rfl)) | rfl | simp [E.lend, E.lendC, E.ev, E.cv, E.get, E.fill', E.fill, AV.sh, AC.sh, Res.sh, ints_len, *]) ?_)
  rintro r S ⟨rfl, rfl⟩
  refine EOps_nil ?_
  refine E_cond rfl (fun hc16 => ?_) (fun hc16 => ?_)
  ·have he := fIdx_at hany hgx hc16
   refine E_seq ?_
   refine E_region' (L := [0, 1]) rfl ?_
   refine xmv ?_
   refine xas ?_
   refine EOps_nil ?_
   refine E_ret ?_
   refine ⟨_, rfl, rfl, ?_⟩
   first | (simp [AV.ren, ren_sc, ren_ro, AC.ren, AC.ren.rens, ix, rv1, E.get, E.ev, E.cv, E.fill', E.fill, E.slotsOf, *]; done) | simp_all [AV.ren, ren_sc, ren_ro, AC.ren, AC.ren.rens, ix, rv1, E.get, E.ev, E.cv, E.fill', E.fill, E.slotsOf]
  ·refine E_skip ?_
   refine E_region' (L := [0, 1]) rfl ?_
   refine x_pure rfl rfl rfl (by first | exact l_add rfl rfl rfl | exact L_bin rfl rfl rfl rfl) ?_
   refine xmv ?_
   refine EOps_nil ?_
   refine ⟨k + 1, ?_, ?_, rfl, ⟨.inr rfl, .inl rfl, trivial⟩, ⟨.inr rfl, .inr rfl, .inr rfl, trivial⟩⟩
   ·first | omega | (dsimp only; omega) | (simp; omega)
   ·exact ⟨by omega, any_take hany hgx hc16⟩
 ·have hk' : (xs.map g).length ≤ k := by simpa [pairs_len] using hc9
  rw [List.take_of_length_le hk'] at hany
  have he := fIdx_none hany
  refine E_exit ?_
  refine E_seq ?_
  refine E_region' (L := [0]) rfl ?_
  refine xas ?_
  refine EOps_nil ?_
  refine E_ret ?_
  refine ⟨_, rfl, rfl, ?_⟩
  first | (simp [AV.ren, ren_sc, ren_ro, AC.ren, AC.ren.rens, ix, rv1, E.get, E.ev, E.cv, E.fill', E.fill, E.slotsOf, *]; done) | simp_all [AV.ren, ren_sc, ren_ro, AC.ren, AC.ren.rens, ix, rv1, E.get, E.ev, E.cv, E.fill', E.fill, E.slotsOf]

set_option maxRecDepth 20000 in
set_option maxHeartbeats 2000000 in
theorem c_slices_ContainsFunc___impl_Range_impl_Range_ (xs : List (Int × Int)) (g : Int × Int → Int) (q : Int → Bool) (f : FuncId) (caps : List AC) (R : List Res) (hf : callable Tryz.prog f = true) (hp : ∀ x ∈ xs, EFn Tryz.prog f (.agg [.sc (.int .i64 x.1), .sc (.int .i64 x.2)] :: caps.map .c) R (fun r R' => r = .c (.sc (.bool (q (g x)))) ∧ R' = R)) : EFn Tryz.prog 54 [.c (.ro (pairs xs)), .c (.fn f caps)] R (fun r R' => r = .c (.sc (.bool ((xs.map g).any q))) ∧ R' = R) := by
 refine E_fnS Tryz.func54 rfl (Nat.le_of_ble_eq_true rfl) ?_
 refine E_seq ?_
 refine E_region' (L := [0]) rfl ?_
 refine xas ?_
 refine EOps_nil ?_
 refine E_seq ?_
 refine E_region' (L := [0, 1, 2, 3, 4]) rfl ?_
 refine xmv ?_
 refine xmv ?_
 refine EOps_go rfl rfl (EOp_call1 rfl rfl (by decide) rfl ca_67 ((c_slices_IndexFunc___impl_Range_impl_Range_ xs g q f caps R hf hp)) (by refine cons_eq ?_ (cons_eq ?_ (rfl)) <;> first | (refine lend_whole rfl ?_; first | assumption | exact ints_len _ | exact pairs_len _ | exact quads_len _ | exact quints_len _ | exact bools_len _ | (simp [ints_len, bools_len, pairs_len, quads_len, quints_len, part_len, *]; done) | (simp [ints_len, bools_len, pairs_len, quads_len, quints_len]; omega) | rfl) | (refine agg_eq ?_; repeat' (first | (refine lendC_whole rfl ?_; first | assumption | exact ints_len _ | exact pairs_len _ | exact quads_len _ | exact quints_len _ | exact bools_len _ | (simp [ints_len, bools_len, pairs_len, quads_len, quints_len, part_len, *]; done) | (simp [ints_len, bools_len, pairs_len, quads_len, quints_len]; omega) | rfl) | refine cons_eq ?_ ?_ | rfl)) | rfl | simp [E.lend, E.lendC, E.ev, E.cv, E.get, E.fill', E.fill, AV.sh, AC.sh, Res.sh, ints_len, *]) ?_)
 rintro r S ⟨rfl, rfl⟩
 refine x_pure rfl rfl rfl (L_bin rfl rfl rfl rfl) ?_
 refine xas ?_
 refine EOps_nil ?_
 refine E_ret ?_
 refine ⟨_, rfl, rfl, ?_⟩
 cases h : (xs.map g).any q <;> simp [AV.ren, ren_sc, ren_ro, AC.ren, AC.ren.rens, ix, rv1, E.get, E.ev, E.cv, E.fill', E.fill, E.slotsOf, fIdx, h]

set_option maxRecDepth 20000 in
set_option maxHeartbeats 2000000 in
theorem c_impl_areRanges (rs : List (Int × Int)) : EFn Tryz.prog 43 [.c (.ro (pairs rs))] [] (fun r S => r = .c (.sc (.bool (areR rs))) ∧ S = []) := by
 refine E_fn Tryz.func43 rfl (Nat.le_of_ble_eq_true rfl) ?_
 refine E_bound (t := 0) (rows := pairs rs) rfl fun hb => ?_
 rw [pairs_len] at hb
 refine E_seq ?_
 refine E_region' (L := [0]) rfl ?_
 refine xas ?_
 refine EOps_nil ?_
 refine E_seq ?_
 refine E_region' (L := [0, 1, 2, 3, 4, 5, 6, 7, 8]) rfl ?_
 refine xmv ?_
 refine x_pure rfl rfl rfl (l_len rfl sl_36) ?_
 refine x_pure rfl rfl rfl (L_bin rfl rfl rfl rfl) ?_
 refine xmv ?_
 refine EOps_split 6 (b := _) rfl (fun hg6 => ?_) (fun hg6 => ?_)
 ·refine xmv ?_
  refine EOps_go rfl rfl (EOp_call1 rfl rfl (by decide) rfl ca_54 ((c_slices_ContainsFunc___impl_Range_impl_Range_ rs rngG (fun y => decide (y = 1)) 55 [] [] ca_55 (fun y _ => c_impl_areRanges_1 y))) (by refine cons_eq ?_ (cons_eq ?_ (rfl)) <;> first | (refine lend_whole rfl ?_; first | assumption | exact ints_len _ | exact pairs_len _ | exact quads_len _ | exact quints_len _ | exact bools_len _ | (simp [ints_len, bools_len, pairs_len, quads_len, quints_len, part_len, *]; done) | (simp [ints_len, bools_len, pairs_len, quads_len, quints_len]; omega) | rfl) | (refine agg_eq ?_; repeat' (first | (refine lendC_whole rfl ?_; first | assumption | exact ints_len _ | exact pairs_len _ | exact quads_len _ | exact quints_len _ | exact bools_len _ | (simp [ints_len, bools_len, pairs_len, quads_len, quints_len, part_len, *]; done) | (simp [ints_len, bools_len, pairs_len, quads_len, quints_len]; omega) | rfl) | refine cons_eq ?_ ?_ | rfl)) | rfl | simp [E.lend, E.lendC, E.ev, E.cv, E.get, E.fill', E.fill, AV.sh, AC.sh, Res.sh, ints_len, *]) ?_)
  rintro r S ⟨rfl, rfl⟩
  rw [rng_any]
  refine x_pure rfl rfl rfl (L_not rfl rfl) ?_
  refine x_pure rfl rfl rfl (L_pick rfl rfl) ?_
  refine xas ?_
  refine EOps_nil ?_
  refine E_ret ?_
  refine ⟨_, [], rfl, rfl, bool_eq ?_, rfl⟩
  first | (simp_all [areR, pairs_len]; done) | (simp_all [areR, pairs_len]; omega)
 ·refine x_skip rfl rfl rfl ?_
  refine x_skip rfl rfl rfl ?_
  refine x_skip rfl rfl rfl ?_
  refine x_pure rfl rfl rfl (L_pick rfl rfl) ?_
  refine xas ?_
  refine EOps_nil ?_
  refine E_ret ?_
  refine ⟨_, [], rfl, rfl, bool_eq ?_, rfl⟩
  first | (simp_all [areR, pairs_len]; done) | (simp_all [areR, pairs_len]; omega)

set_option maxRecDepth 20000 in
set_option maxHeartbeats 2000000 in
theorem c_impl_areQueries (xs : List Int) (s : Sett) (rs : List (Int × Int)) : EFn Tryz.prog 27 [.c (.ro (ints xs)), .agg (setC s), .c (.ro (pairs rs))] [] (fun r S => r = .c (.sc (.bool (areQ xs s rs))) ∧ S = []) := by
 refine E_fn Tryz.func27 rfl (Nat.le_of_ble_eq_true rfl) ?_
 refine E_seq ?_
 refine E_region' (L := [0, 1]) rfl ?_
 refine x_box rfl rfl rfl rfl rfl ?_
 refine xas ?_
 refine EOps_nil ?_
 refine E_seq ?_
 refine E_region' (L := [0, 1, 2, 3, 4, 5, 6, 7, 8, 9, 10]) rfl ?_
 refine xmv ?_
 refine x_call rfl rfl rfl rfl rfl ca_41 (c_impl_AreValues xs) ?_
 rintro r S ⟨rfl, rfl⟩
 refine xmv ?_
 refine EOps_split 9 (b := _) rfl (fun hg9 => ?_) (fun hg9 => ?_)
 ·refine x_light rfl rfl rfl (L_load rfl (by first | exact d_bp ty_34 | exact ld_rp ty_34 rfl | exact d_ep ty_34)) ?_
  refine x_call rfl rfl rfl rfl rfl ca_42 (c_impl_IsSettings s) ?_
  rintro r S ⟨rfl, rfl⟩
  refine x_pure rfl rfl rfl (L_pick rfl rfl) ?_
  refine xmv ?_
  refine EOps_split 13 (b := _) rfl (fun hg13 => ?_) (fun hg13 => ?_)
  ·refine xmv ?_
   refine x_call rfl rfl rfl rfl rfl ca_43 (c_impl_areRanges rs) ?_
   rintro r S ⟨rfl, rfl⟩
   refine x_pure rfl rfl rfl (L_pick rfl rfl) ?_
   refine xas ?_
   refine EOps_nil ?_
   refine E_ret ?_
   refine ⟨_, [], rfl, rfl, bool_eq ?_, rfl⟩
   simp_all [areQ]
  ·refine x_skip rfl rfl rfl ?_
   refine x_skip rfl rfl rfl ?_
   refine x_pure rfl rfl rfl (L_pick rfl rfl) ?_
   refine xas ?_
   refine EOps_nil ?_
   refine E_ret ?_
   refine ⟨_, [], rfl, rfl, bool_eq ?_, rfl⟩
   simp_all [areQ]
 ·refine x_skip rfl rfl rfl ?_
  refine x_skip rfl rfl rfl ?_
  refine x_pure rfl rfl rfl (L_pick rfl rfl) ?_
  refine xmv ?_
  refine x_skip rfl rfl rfl ?_
  refine x_skip rfl rfl rfl ?_
  refine x_pure rfl rfl rfl (L_pick rfl rfl) ?_
  refine xas ?_
  refine EOps_nil ?_
  refine E_ret ?_
  refine ⟨_, [], rfl, rfl, bool_eq ?_, rfl⟩
  simp_all [areQ]

set_option maxRecDepth 20000 in
set_option maxHeartbeats 2000000 in
theorem c_spec_l8Ranges (rs : List (Int × Int)) : EFn Tryz.prog 24 [.c (.ro (pairs rs))] [] (fun r S => r = .c (.sc (.bool (areR rs))) ∧ S = []) := by
 refine E_fn Tryz.func24 rfl (Nat.le_of_ble_eq_true rfl) ?_
 refine E_bound (t := 0) (rows := pairs rs) rfl fun hb => ?_
 rw [pairs_len] at hb
 refine E_seq ?_
 refine E_region' (L := [0]) rfl ?_
 refine xas ?_
 refine EOps_nil ?_
 refine E_seq ?_
 refine E_seq ?_
 refine E_region' (L := [0]) rfl ?_
 refine xas ?_
 refine EOps_nil ?_
 refine E_block ?_
 refine e_for (α := Nat) [0] (fun k => [(3, .c (.sc (.int .i64 (k))))]) (fun _ => _) (fun k => k ≤ rs.length ∧ (rs.take k).all isRng = true) (fun k => rs.length - k) (0) ?_ (rfl) ⟨.inr rfl, trivial⟩ ?_
 ·simp
 rintro k ⟨hk, hall⟩
 refine E_seq ?_
 refine E_seq ?_
 refine E_region' (L := [0, 1, 2, 3]) rfl ?_
 refine xmv ?_
 refine xmv ?_
 refine x_pure rfl rfl rfl (l_len rfl sl_36) ?_
 refine x_pure rfl rfl rfl (L_bin rfl rfl rfl rfl) ?_
 refine EOps_nil ?_
 refine E_cond rfl (fun hc7 => ?_) (fun hc7 => ?_)
 ·have hc7' : k < (rs).length := by simpa [ints_len, bools_len, pairs_len, quads_len, quints_len] using hc7
  obtain ⟨x, hx⟩ : ∃ x, (rs)[k]? = some x := ⟨_, List.getElem?_eq_getElem hc7'⟩
  refine E_skip ?_
  refine E_seq ?_
  refine E_block ?_
  refine E_seq ?_
  refine E_region' (L := [0, 1, 2, 3, 4, 5]) rfl ?_
  refine xmv ?_
  refine xmv ?_
  refine x_pure rfl rfl rfl (L_index rfl rfl (by first | exact i_ro sl_36 ty_54 | exact i_sl sl_36 ty_54)) ?_
  refine x_light rfl rfl rfl (L_load rfl (by first | exact d_bp ty_54 | exact ld_rp ty_54 rfl | exact d_ep ty_54)) ?_
  refine x_call rfl rfl rfl rfl rfl ca_35 (c_spec_IsRange x) ?_
  rintro r S ⟨rfl, rfl⟩
  refine x_pure rfl rfl rfl (L_not rfl rfl) ?_
  refine EOps_nil ?_
  refine E_cond rfl (fun hc15 => ?_) (fun hc15 => ?_)
  ·have hf : rs.all isRng = false := notP_all hx (by simpa using hc15)
   refine E_seq ?_
   refine E_region' (L := [0]) rfl ?_
   refine xas ?_
   refine EOps_nil ?_
   refine E_ret ?_
   refine ⟨_, [], rfl, rfl, ?_, rfl⟩
   simp [AV.ren, ren_sc, ren_ro, AC.ren, AC.ren.rens, ix, rv1, E.get, E.ev, E.cv, E.fill', E.fill, E.slotsOf, areR, hf]
  ·refine E_skip ?_
   refine E_region' (L := [0, 1, 2]) rfl ?_
   refine xmv ?_
   refine x_pure rfl rfl rfl (by first | exact l_add rfl rfl rfl | exact L_bin rfl rfl rfl rfl) ?_
   refine xas ?_
   refine EOps_nil ?_
   refine ⟨k + 1, ?_, ?_, rfl, ⟨.inr rfl, trivial⟩, ⟨.inr rfl, trivial⟩⟩
   ·first | omega | (dsimp only; omega) | (simp; omega)
   ·exact ⟨by omega, allP_take hall hx (by simpa using hc15)⟩
 ·have hk' : rs.length ≤ k := by simpa [pairs_len] using hc7
  rw [List.take_of_length_le hk'] at hall
  refine E_exit ?_
  refine E_seq ?_
  refine E_region' (L := [0, 1, 2, 3]) rfl ?_
  refine xmv ?_
  refine x_pure rfl rfl rfl (l_len rfl sl_36) ?_
  refine x_pure rfl rfl rfl (L_bin rfl rfl rfl rfl) ?_
  refine xas ?_
  refine EOps_nil ?_
  refine E_ret ?_
  refine ⟨_, [], rfl, rfl, bool_eq ?_, rfl⟩
  simp [areR, hall, pairs_len]
  try omega

end Go.Proofs.YthnadkagchbhbaaGreat.E
