/- Walks through functions, by program out of the session's annotations. -/
import Derived.Test.YthnadkagchbhbaaGreatA90
import Derived.Test.YthnadkagchbhbaaGreatF4
namespace Go.Proofs.YthnadkagchbhbaaGreat.E
open Go Go.RowKit Go.Proofs
set_option linter.unusedVariables false
set_option linter.unusedSimpArgs false

theorem quints_app (xs ys : List Qn) : quints xs ++ quints ys = quints (xs ++ ys) := by simp [quints]
theorem quints_lenApp (xs ys : List Qn) : xs.length + (quints ys).length = (xs ++ ys).length := by simp [quints_len]

set_option maxRecDepth 20000 in
set_option maxHeartbeats 2000000 in
theorem c_impl_IsSettings (s : Sett) : EFn Tryz.prog 42 [.agg (setC s)] [] (fun r S => r = .c (.sc (.bool (isSet s))) ∧ S = []) := by
 refine E_fn Tryz.func42 rfl (Nat.le_of_ble_eq_true rfl) ?_
 refine E_seq ?_
 refine E_region' (L := [0, 1]) rfl ?_
 refine x_box rfl rfl rfl rfl rfl ?_
 refine xas ?_
 refine EOps_nil ?_
 refine E_seq ?_
 refine E_region' (L := [0, 1, 2, 3, 4, 5, 6, 7, 8, 9, 10, 11, 12, 13, 14, 15, 16, 17, 18, 19, 20, 21, 22, 23, 24, 25, 26, 27, 28]) rfl ?_
 refine x_pure rfl rfl rfl (l_field rfl fo_34_0) ?_
 refine x_light rfl rfl rfl (L_load rfl (by first | exact d_bp ty_3 | exact ld_rp ty_3 rfl | exact d_ep ty_3)) ?_
 refine x_pure rfl rfl rfl (L_bin rfl rfl rfl rfl) ?_
 refine xmv ?_
 refine EOps_split 6 (b := _) rfl (fun hg6 => ?_) (fun hg6 => ?_)
 ·refine x_pure rfl rfl rfl (l_field rfl fo_34_0) ?_
  refine x_light rfl rfl rfl (L_load rfl (by first | exact d_bp ty_3 | exact ld_rp ty_3 rfl | exact d_ep ty_3)) ?_
  refine x_pure rfl rfl rfl (L_bin rfl rfl rfl rfl) ?_
  refine x_pure rfl rfl rfl (L_pick rfl rfl) ?_
  refine xmv ?_
  refine EOps_split 11 (b := _) rfl (fun hg11 => ?_) (fun hg11 => ?_)
  ·refine x_pure rfl rfl rfl (l_field rfl fo_34_1) ?_
   refine x_light rfl rfl rfl (L_load rfl (by first | exact d_bp ty_3 | exact ld_rp ty_3 rfl | exact d_ep ty_3)) ?_
   refine x_pure rfl rfl rfl (L_bin rfl rfl rfl rfl) ?_
   refine x_pure rfl rfl rfl (L_pick rfl rfl) ?_
   refine xmv ?_
   refine EOps_split 16 (b := _) rfl (fun hg16 => ?_) (fun hg16 => ?_)
   ·refine x_pure rfl rfl rfl (l_field rfl fo_34_1) ?_
    refine x_light rfl rfl rfl (L_load rfl (by first | exact d_bp ty_3 | exact ld_rp ty_3 rfl | exact d_ep ty_3)) ?_
    refine x_pure rfl rfl rfl (L_bin rfl rfl rfl rfl) ?_
    refine x_pure rfl rfl rfl (L_pick rfl rfl) ?_
    refine xmv ?_
    refine EOps_split 21 (b := _) rfl (fun hg21 => ?_) (fun hg21 => ?_)
    ·refine x_pure rfl rfl rfl (l_field rfl fo_34_2) ?_
     refine x_light rfl rfl rfl (L_load rfl (by first | exact d_bp ty_3 | exact ld_rp ty_3 rfl | exact d_ep ty_3)) ?_
     refine x_pure rfl rfl rfl (L_bin rfl rfl rfl rfl) ?_
     refine x_pure rfl rfl rfl (L_pick rfl rfl) ?_
     refine xmv ?_
     refine EOps_split 26 (b := _) rfl (fun hg26 => ?_) (fun hg26 => ?_)
     ·refine x_pure rfl rfl rfl (l_field rfl fo_34_2) ?_
      refine x_light rfl rfl rfl (L_load rfl (by first | exact d_bp ty_3 | exact ld_rp ty_3 rfl | exact d_ep ty_3)) ?_
      refine x_pure rfl rfl rfl (L_bin rfl rfl rfl rfl) ?_
      refine x_pure rfl rfl rfl (L_pick rfl rfl) ?_
      refine xas ?_
      refine EOps_nil ?_
      refine E_ret ?_
      refine ⟨_, [], rfl, rfl, bool_eq ?_, rfl⟩
      first | (simp_all [isSet, isIn]; done) | (simp_all [isSet, isIn]; intros; omega) | (simp_all [isSet, isIn]; omega)
     ·refine x_skip rfl rfl rfl ?_
      refine x_skip rfl rfl rfl ?_
      refine x_skip rfl rfl rfl ?_
      refine x_pure rfl rfl rfl (L_pick rfl rfl) ?_
      refine xas ?_
      refine EOps_nil ?_
      refine E_ret ?_
      refine ⟨_, [], rfl, rfl, bool_eq ?_, rfl⟩
      first | (simp_all [isSet, isIn]; done) | (simp_all [isSet, isIn]; intros; omega) | (simp_all [isSet, isIn]; omega)
    ·refine x_skip rfl rfl rfl ?_
     refine x_skip rfl rfl rfl ?_
     refine x_skip rfl rfl rfl ?_
     refine x_pure rfl rfl rfl (L_pick rfl rfl) ?_
     refine xmv ?_
     refine x_skip rfl rfl rfl ?_
     refine x_skip rfl rfl rfl ?_
     refine x_skip rfl rfl rfl ?_
     refine x_pure rfl rfl rfl (L_pick rfl rfl) ?_
     refine xas ?_
     refine EOps_nil ?_
     refine E_ret ?_
     refine ⟨_, [], rfl, rfl, bool_eq ?_, rfl⟩
     first | (simp_all [isSet, isIn]; done) | (simp_all [isSet, isIn]; intros; omega) | (simp_all [isSet, isIn]; omega)
   ·refine x_skip rfl rfl rfl ?_
    refine x_skip rfl rfl rfl ?_
    refine x_skip rfl rfl rfl ?_
    refine x_pure rfl rfl rfl (L_pick rfl rfl) ?_
    refine xmv ?_
    refine x_skip rfl rfl rfl ?_
    refine x_skip rfl rfl rfl ?_
    refine x_skip rfl rfl rfl ?_
    refine x_pure rfl rfl rfl (L_pick rfl rfl) ?_
    refine xmv ?_
    refine x_skip rfl rfl rfl ?_
    refine x_skip rfl rfl rfl ?_
    refine x_skip rfl rfl rfl ?_
    refine x_pure rfl rfl rfl (L_pick rfl rfl) ?_
    refine xas ?_
    refine EOps_nil ?_
    refine E_ret ?_
    refine ⟨_, [], rfl, rfl, bool_eq ?_, rfl⟩
    first | (simp_all [isSet, isIn]; done) | (simp_all [isSet, isIn]; intros; omega) | (simp_all [isSet, isIn]; omega)
  ·refine x_skip rfl rfl rfl ?_
   refine x_skip rfl rfl rfl ?_
   refine x_skip rfl rfl rfl ?_
   refine x_pure rfl rfl rfl (L_pick rfl rfl) ?_
   refine xmv ?_
   refine x_skip rfl rfl rfl ?_
   refine x_skip rfl rfl rfl ?_
   refine x_skip rfl rfl rfl ?_
   refine x_pure rfl rfl rfl (L_pick rfl rfl) ?_
   refine xmv ?_
   refine x_skip rfl rfl rfl ?_
   refine x_skip rfl rfl rfl ?_
   refine x_skip rfl rfl rfl ?_
   refine x_pure rfl rfl rfl (L_pick rfl rfl) ?_
   refine xmv ?_
   refine x_skip rfl rfl rfl ?_
   refine x_skip rfl rfl rfl ?_
   refine x_skip rfl rfl rfl ?_
   refine x_pure rfl rfl rfl (L_pick rfl rfl) ?_
   refine xas ?_
   refine EOps_nil ?_
   refine E_ret ?_
   refine ⟨_, [], rfl, rfl, bool_eq ?_, rfl⟩
   first | (simp_all [isSet, isIn]; done) | (simp_all [isSet, isIn]; intros; omega) | (simp_all [isSet, isIn]; omega)
 ·refine x_skip rfl rfl rfl ?_
  refine x_skip rfl rfl rfl ?_
  refine x_skip rfl rfl rfl ?_
  refine x_pure rfl rfl rfl (L_pick rfl rfl) ?_
  refine xmv ?_
  refine x_skip rfl rfl rfl ?_
  refine x_skip rfl rfl rfl ?_
  refine x_skip rfl rfl rfl ?_
  refine x_pure rfl rfl rfl (L_pick rfl rfl) ?_
  refine xmv ?_
  refine x_skip rfl rfl rfl ?_
  refine x_skip rfl rfl rfl ?_
  refine x_skip rfl rfl rfl ?_
  refine x_pure rfl rfl rfl (L_pick rfl rfl) ?_
  refine xmv ?_
  refine x_skip rfl rfl rfl ?_
  refine x_skip rfl rfl rfl ?_
  refine x_skip rfl rfl rfl ?_
  refine x_pure rfl rfl rfl (L_pick rfl rfl) ?_
  refine xmv ?_
  refine x_skip rfl rfl rfl ?_
  refine x_skip rfl rfl rfl ?_
  refine x_skip rfl rfl rfl ?_
  refine x_pure rfl rfl rfl (L_pick rfl rfl) ?_
  refine xas ?_
  refine EOps_nil ?_
  refine E_ret ?_
  refine ⟨_, [], rfl, rfl, bool_eq ?_, rfl⟩
  first | (simp_all [isSet, isIn]; done) | (simp_all [isSet, isIn]; intros; omega) | (simp_all [isSet, isIn]; omega)

set_option maxRecDepth 20000 in
set_option maxHeartbeats 2000000 in
theorem c_spec_IsSettings (s : Sett) : EFn Tryz.prog 23 [.agg (setC s)] [] (fun r S => r = .c (.sc (.bool (isSet s))) ∧ S = []) := by
 refine E_fn Tryz.func23 rfl (Nat.le_of_ble_eq_true rfl) ?_
 refine E_seq ?_
 refine E_region' (L := [0, 1]) rfl ?_
 refine x_box rfl rfl rfl rfl rfl ?_
 refine xas ?_
 refine EOps_nil ?_
 refine E_seq ?_
 refine e_tidy [0, 1, 2] ?_
 refine E_region' (L := [0, 1, 2, 3, 4, 5, 6, 7, 8, 9, 10, 11, 12, 13]) rfl ?_
 refine x_pure rfl rfl rfl (l_field rfl fo_34_0) ?_
 refine x_light rfl rfl rfl (L_load rfl (by first | exact d_bp ty_3 | exact ld_rp ty_3 rfl | exact d_ep ty_3)) ?_
 refine x_call rfl rfl rfl rfl rfl ca_34 (c_spec_l1In _ _ _) ?_
 rintro r S ⟨rfl, rfl⟩
 refine xmv ?_
 refine EOps_split 6 (b := _) rfl (fun hg6 => ?_) (fun hg6 => ?_)
 ·refine x_pure rfl rfl rfl (l_field rfl fo_34_1) ?_
  refine x_light rfl rfl rfl (L_load rfl (by first | exact d_bp ty_3 | exact ld_rp ty_3 rfl | exact d_ep ty_3)) ?_
  refine x_call rfl rfl rfl rfl rfl ca_34 (c_spec_l1In _ _ _) ?_
  rintro r S ⟨rfl, rfl⟩
  refine x_pure rfl rfl rfl (L_pick rfl rfl) ?_
  refine xmv ?_
  refine EOps_split 11 (b := _) rfl (fun hg11 => ?_) (fun hg11 => ?_)
  ·refine x_pure rfl rfl rfl (l_field rfl fo_34_2) ?_
   refine x_light rfl rfl rfl (L_load rfl (by first | exact d_bp ty_3 | exact ld_rp ty_3 rfl | exact d_ep ty_3)) ?_
   refine x_call rfl rfl rfl rfl rfl ca_34 (c_spec_l1In _ _ _) ?_
   rintro r S ⟨rfl, rfl⟩
   refine x_pure rfl rfl rfl (L_pick rfl rfl) ?_
   refine xas ?_
   refine EOps_nil ?_
   refine E_ret ?_
   refine ⟨_, [], rfl, rfl, bool_eq ?_, rfl⟩
   simp_all [isSet]
  ·refine x_skip rfl rfl rfl ?_
   refine x_skip rfl rfl rfl ?_
   refine x_skip rfl rfl rfl ?_
   refine x_pure rfl rfl rfl (L_pick rfl rfl) ?_
   refine xas ?_
   refine EOps_nil ?_
   refine E_ret ?_
   refine ⟨_, [], rfl, rfl, bool_eq ?_, rfl⟩
   simp_all [isSet]
 ·refine x_skip rfl rfl rfl ?_
  refine x_skip rfl rfl rfl ?_
  refine x_skip rfl rfl rfl ?_
  refine x_pure rfl rfl rfl (L_pick rfl rfl) ?_
  refine xmv ?_
  refine x_skip rfl rfl rfl ?_
  refine x_skip rfl rfl rfl ?_
  refine x_skip rfl rfl rfl ?_
  refine x_pure rfl rfl rfl (L_pick rfl rfl) ?_
  refine xas ?_
  refine EOps_nil ?_
  refine E_ret ?_
  refine ⟨_, [], rfl, rfl, bool_eq ?_, rfl⟩
  simp_all [isSet]

set_option maxRecDepth 20000 in
set_option maxHeartbeats 2000000 in
theorem c_impl_NextSeed (x : Int) (h : 0 ≤ x ∧ x ≤ 10006) : EFn Tryz.prog 84 [.c (.sc (.int .i64 x))] [] (fun r S => r = .c (.sc (.int .i64 (nxSeed x))) ∧ S = []) := by
 refine E_fn Tryz.func84 rfl (Nat.le_of_ble_eq_true rfl) ?_
 have hx : x % 10007 = x := by omega
 refine E_seq ?_
 refine E_region' (L := [0]) rfl ?_
 refine xas ?_
 refine EOps_nil ?_
 refine E_seq ?_
 refine E_region' (L := [0, 1, 2]) rfl ?_
 refine xmv ?_
 refine x_pure rfl rfl rfl (L_rem rfl rfl rfl (by omega) (by first | decide | omega)) ?_
 refine xas ?_
 refine EOps_nil ?_
 refine E_seq ?_
 refine E_seq ?_
 refine E_region' (L := [0, 1]) rfl ?_
 refine xmv ?_
 refine x_pure rfl rfl rfl (L_bin rfl rfl rfl rfl) ?_
 refine EOps_nil ?_
 refine E_cond rfl (fun hc7 => ?_) (fun hc7 => ?_)
 ·simp at hc7; omega
 ·refine E_skip ?_
  refine E_seq ?_
  refine E_region' (L := [0, 1, 2, 3, 4]) rfl ?_
  refine xmv ?_
  refine x_pure rfl rfl rfl (by first | exact l_mul rfl rfl rfl | exact L_bin rfl rfl rfl rfl) ?_
  refine x_pure rfl rfl rfl (by first | exact l_add rfl rfl rfl | exact L_bin rfl rfl rfl rfl) ?_
  refine x_pure rfl rfl rfl (L_rem rfl rfl rfl (by omega) (by first | decide | omega)) ?_
  refine xas ?_
  refine EOps_nil ?_
  refine E_ret ?_
  refine ⟨_, [], rfl, rfl, int_eq ?_, rfl⟩
  show (x % 10007 * 1103 + 2345) % 10007 = nxSeed x
  rw [hx, nxSeed]

set_option maxRecDepth 20000 in
set_option maxHeartbeats 2000000 in
theorem c_spec_NextSeed (x : Int) (h : 0 ≤ x ∧ x ≤ 10006) : EFn Tryz.prog 76 [.c (.sc (.int .i64 x))] [] (fun r S => r = .c (.sc (.int .i64 (nxSeed x))) ∧ S = []) := by
 refine E_fn Tryz.func76 rfl (Nat.le_of_ble_eq_true rfl) ?_
 have hx : (x % 10007 + 10007) % 10007 = x := by omega
 refine E_seq ?_
 refine E_region' (L := [0]) rfl ?_
 refine xas ?_
 refine EOps_nil ?_
 refine E_seq ?_
 refine E_region' (L := [0, 1, 2, 3, 4]) rfl ?_
 refine xmv ?_
 refine x_pure rfl rfl rfl (L_rem rfl rfl rfl (by omega) (by first | decide | omega)) ?_
 refine x_pure rfl rfl rfl (by first | exact l_add rfl rfl rfl | exact L_bin rfl rfl rfl rfl) ?_
 refine x_pure rfl rfl rfl (L_rem rfl rfl rfl (by omega) (by first | decide | omega)) ?_
 refine xas ?_
 refine EOps_nil ?_
 refine E_seq ?_
 refine E_region' (L := [0, 1, 2, 3, 4]) rfl ?_
 refine xmv ?_
 refine x_pure rfl rfl rfl (by first | exact l_mul rfl rfl rfl | exact L_bin rfl rfl rfl rfl) ?_
 refine x_pure rfl rfl rfl (by first | exact l_add rfl rfl rfl | exact L_bin rfl rfl rfl rfl) ?_
 refine x_pure rfl rfl rfl (L_rem rfl rfl rfl (by omega) (by first | decide | omega)) ?_
 refine xas ?_
 refine EOps_nil ?_
 refine E_ret ?_
 refine ⟨_, [], rfl, rfl, int_eq ?_, rfl⟩
 show ((x % 10007 + 10007) % 10007 * 1103 + 2345) % 10007 = nxSeed x
 rw [hx, nxSeed]

set_option maxRecDepth 20000 in
set_option maxHeartbeats 2000000 in
theorem c_impl_ChoosePivot (c : Crk) (s : Sett) (a b : Nat) (hc : isCrk c = true) (hs : isSet s = true) (hab : a < b ∧ b ≤ c.vals.length) : EFn Tryz.prog 72 [.agg (crkC c), .agg (setC s), .c (.sc (.int .i64 (a : Int))), .c (.sc (.int .i64 (b : Int)))] [] (fun r S => r = .tup [(false, [.sc (.int .i64 (chP c s a b))]), (true, setC (setN s))] ∧ S = []) := by
 refine E_fn Tryz.func72 rfl (Nat.le_of_ble_eq_true rfl) ?_
 have hl := crk_lens hc
 have hsp := set_parts hs
 have hsr := nxSeed_in s.seed
 refine E_seq ?_
 refine E_region' (L := [0, 1, 2, 3]) rfl ?_
 refine x_box rfl rfl rfl rfl rfl ?_
 refine x_box rfl rfl rfl rfl rfl ?_
 refine xas ?_
 refine x_alloc rfl rfl rfl rfl za_34 ?_
 refine EOps_nil ?_
 refine E_seq ?_
 refine E_seq ?_
 refine e_tidy [0, 1, 2, 3, 4, 5, 8, 9] ?_
 refine E_region' (L := [0, 1, 2, 3, 4, 5, 6, 7, 8, 9, 10, 11, 12, 13, 14, 15, 16, 17, 18, 19, 20, 21, 22, 23]) rfl ?_
 refine x_light rfl rfl rfl (L_load rfl (by first | exact d_bp ty_29 | exact ld_rp ty_29 rfl | exact d_ep ty_29)) ?_
 refine x_call rfl rfl rfl rfl rfl ca_73 (c_impl_IsCracker c) ?_
 rintro r S ⟨rfl, rfl⟩
 refine x_pure rfl rfl rfl (L_not rfl rfl) ?_
 refine xmv ?_
 refine EOps_split 13 (b := _) rfl (fun hg13 => ?_) (fun hg13 => ?_)
 ·simp [hc] at hg13
 ·refine x_light rfl rfl rfl (L_load rfl (by first | exact d_bp ty_34 | exact ld_rp ty_34 rfl | exact d_ep ty_34)) ?_
  refine x_call rfl rfl rfl rfl rfl ca_42 (c_impl_IsSettings s) ?_
  rintro r S ⟨rfl, rfl⟩
  refine x_pure rfl rfl rfl (L_not rfl rfl) ?_
  refine x_pure rfl rfl rfl (L_pick rfl rfl) ?_
  refine xmv ?_
  refine EOps_split 18 (b := _) rfl (fun hg18 => ?_) (fun hg18 => ?_)
  ·simp [hs] at hg18
  ·refine xmv ?_
   refine x_pure rfl rfl rfl (L_bin rfl rfl rfl rfl) ?_
   refine x_pure rfl rfl rfl (L_pick rfl rfl) ?_
   refine xmv ?_
   refine EOps_split 22 (b := _) rfl (fun hg22 => ?_) (fun hg22 => ?_)
   ·simp at hg22; omega
   ·refine xmv ?_
    refine xmv ?_
    refine x_pure rfl rfl rfl (L_bin rfl rfl rfl rfl) ?_
    refine x_pure rfl rfl rfl (L_pick rfl rfl) ?_
    refine xmv ?_
    refine EOps_split 27 (b := _) rfl (fun hg27 => ?_) (fun hg27 => ?_)
    ·simp at hg27; omega
    ·refine xmv ?_
     refine x_pure rfl rfl rfl (l_field rfl fo_29_0) ?_
     refine x_light rfl rfl rfl (L_load rfl (by first | exact d_bp ty_22 | exact ld_rp ty_22 rfl | exact d_ep ty_22)) ?_
     refine x_pure rfl rfl rfl (l_len rfl sl_22) ?_
     refine x_pure rfl rfl rfl (L_bin rfl rfl rfl rfl) ?_
     refine x_pure rfl rfl rfl (L_pick rfl rfl) ?_
     refine EOps_nil ?_
     refine E_cond rfl (fun hc33 => ?_) (fun hc33 => ?_)
     ·simp [ints_len] at hc33; omega
     ·refine E_skip ?_
      refine E_seq ?_
      refine E_seq ?_
      refine E_region' (L := [0, 1, 2]) rfl ?_
      refine x_pure rfl rfl rfl (l_field rfl fo_34_0) ?_
      refine x_light rfl rfl rfl (L_load rfl (by first | exact d_bp ty_3 | exact ld_rp ty_3 rfl | exact d_ep ty_3)) ?_
      refine x_pure rfl rfl rfl (L_bin rfl rfl rfl rfl) ?_
      refine EOps_nil ?_
      refine E_cond rfl (fun hc37 => ?_) (fun hc37 => ?_)
      ·have hp : s.pol = 2 := by simpa using hc37
       have h1 := Int.emod_nonneg (nxSeed s.seed) (show (b : Int) - a ≠ 0 by omega)
       have h2 := Int.emod_lt_of_pos (nxSeed s.seed) (show 0 < (b : Int) - a by omega)
       obtain ⟨i, hi⟩ : ∃ i : Nat, (a : Int) + nxSeed s.seed % ((b : Int) - a) = i := ⟨_, (Int.toNat_of_nonneg (by omega)).symm⟩
       obtain ⟨x, hx⟩ := at_lt (l := c.vals) (k := i) (by omega)
       have hch : chP c s a b = x := by rw [chP, if_pos hp, hi, Int.toNat_natCast, getD_x hx]
       have hsn : setN s = ⟨s.pol, s.thr, nxSeed s.seed⟩ := by rw [setN, if_pos hp]
       refine E_seq ?_
       refine e_tidy [0, 1, 2, 3, 4, 5, 8, 9, 33, 37] ?_
       refine E_region' (L := [0, 1, 2, 3, 4]) rfl ?_
       refine x_pure rfl rfl rfl (l_field rfl fo_34_2) ?_
       refine x_light rfl rfl rfl (L_load rfl (by first | exact d_bp ty_3 | exact ld_rp ty_3 rfl | exact d_ep ty_3)) ?_
       refine x_call rfl rfl rfl rfl rfl ca_84 (c_impl_NextSeed s.seed hsp.2.2) ?_
       rintro r S ⟨rfl, rfl⟩
       refine x_pure rfl rfl rfl (l_field rfl fo_34_2) ?_
       refine EOps_go rfl rfl (EOp_store rfl rfl rfl (by first | exact s_bp ty_3 | exact s_ep ty_3) ?_)
       refine EOps_nil ?_
       refine E_seq ?_
       refine E_drawT mixed ?_
       refine t_old 0 rfl rfl rfl (l_field rfl fo_29_0) ?_
       refine t_light 1 rfl rfl rfl (L_load rfl (by first | exact d_bp ty_22 | exact ld_rp ty_22 rfl | exact d_ep ty_22)) ?_
       refine t_old 2 rfl rfl rfl (L_move rfl) ?_
       refine t_old 3 rfl rfl rfl (l_field rfl fo_34_2) ?_
       refine t_light 4 rfl rfl rfl (L_load rfl (by first | exact d_bp ty_3 | exact ld_rp ty_3 rfl | exact d_ep ty_3)) ?_
       refine t_old 5 rfl rfl rfl (L_move rfl) ?_
       refine t_old 6 rfl rfl rfl (L_move rfl) ?_
       refine t_old 7 rfl rfl rfl (by first | exact l_sub rfl rfl rfl | exact L_bin rfl rfl rfl rfl) ?_
       refine t_old 8 rfl rfl rfl (L_rem rfl rfl rfl (by omega) (by first | decide | omega)) ?_
       refine t_old 9 rfl rfl rfl (by first | exact l_add rfl rfl rfl | exact L_bin rfl rfl rfl rfl) ?_
       rw [hi]
       refine t_old 10 rfl rfl rfl (L_index rfl rfl (by first | exact i_ro sl_22 ty_3 | exact i_sl sl_22 ty_3)) ?_
       refine t_light 11 rfl rfl rfl (L_load rfl (by first | exact d_bp ty_3 | exact ld_rp ty_3 rfl | exact d_ep ty_3)) ?_
       refine t_light 12 rfl rfl rfl (L_load rfl (by first | exact d_bp ty_34 | exact ld_rp ty_34 rfl | exact d_ep ty_34)) ?_
       refine t_old 13 rfl rfl rfl (L_assign rfl) ?_
       refine t_turn 14 rfl rfl (EOp_store rfl rfl rfl (by first | exact s_bp ty_34 | exact s_ep ty_34) ?_)
       refine T_done (by kernel_rfl) ?_
       refine E_ret ?_
       rw [hch, hsn]
       exact ⟨_, [], rfl, rfl, rfl, rfl⟩
      ·have hp : ¬ s.pol = 2 := by simpa using hc37
       have hch : chP c s a b = medI (cutV c.vals a b) := by rw [chP, if_neg hp]
       have hsn : setN s = s := by rw [setN, if_neg hp]
       have hcl : ((cutV c.vals a b).length : Int) = b - a := cutV_len (by omega) (by omega) (by omega)
       refine E_skip ?_
       refine E_seq ?_
       refine e_tidy [0, 1, 2, 3, 4, 5, 8, 9, 33, 37] ?_
       refine E_drawT mixed ?_
       refine t_old 0 rfl rfl rfl (l_field rfl fo_29_0) ?_
       refine t_light 1 rfl rfl rfl (L_load rfl (by first | exact d_bp ty_22 | exact ld_rp ty_22 rfl | exact d_ep ty_22)) ?_
       refine t_old 2 rfl rfl rfl (L_move rfl) ?_
       refine t_old 3 rfl rfl rfl (L_move rfl) ?_
       refine t_old 4 rfl rfl rfl (Pure.as (L_slice_roI (l := (a : Int)) (h := (b : Int)) rfl sl_22 ty_3 rfl rfl rfl (by first | omega | (simp [ints_len, pairs_len, quads_len, quints_len, bools_len]; omega) | (simp [ints_len, pairs_len, quads_len, quints_len, bools_len] at *; omega)) (by first | omega | (simp [ints_len, pairs_len, quads_len, quints_len, bools_len]; omega) | (simp [ints_len, pairs_len, quads_len, quints_len, bools_len] at *; omega)) (by first | omega | (simp [ints_len, pairs_len, quads_len, quints_len, bools_len]; omega) | (simp [ints_len, pairs_len, quads_len, quints_len, bools_len] at *; omega)) (by first | exact fun r hr => (ints_row _ r hr).1 | exact fun r hr => (pairs_row _ r hr).1 | exact fun r hr => (quads_row _ r hr).1 | exact fun r hr => (quints_row _ r hr).1 | exact fun r hr => (bools_row _ r hr).1)) (y' := .c (.ro (ints (cutV c.vals a b)))) (by first | (simp [ints_cut, pairs_cut, bools_cut, ints_take, pairs_take, bools_take]; done) | (simp [ints_cut, pairs_cut, bools_cut, ints_take, pairs_take, bools_take]; rfl))) ?_
       refine t_light 6 rfl rfl rfl (L_load rfl (by first | exact d_bp ty_34 | exact ld_rp ty_34 rfl | exact d_ep ty_34)) ?_
       refine t_call 5 rfl rfl rfl rfl rfl ca_85 (c_impl_MedianOf (cutV c.vals a b) (by omega) (by omega)) ?_
       rintro r S ⟨rfl, rfl⟩
       refine t_old 7 rfl rfl rfl (L_assign rfl) ?_
       refine t_turn 8 rfl rfl (EOp_store rfl rfl rfl (by first | exact s_bp ty_34 | exact s_ep ty_34) ?_)
       refine T_done (by kernel_rfl) ?_
       refine E_ret ?_
       rw [hch, hsn]
       exact ⟨_, [], rfl, rfl, rfl, rfl⟩

set_option maxRecDepth 20000 in
set_option maxHeartbeats 2000000 in
theorem c_spec_ChoosePivot (c : Crk) (s : Sett) (a b : Nat) (hc : isCrk c = true) (hs : isSet s = true) (hab : a < b ∧ b ≤ c.vals.length) : EFn Tryz.prog 62 [.agg (crkC c), .agg (setC s), .c (.sc (.int .i64 (a : Int))), .c (.sc (.int .i64 (b : Int)))] [] (fun r S => r = .tup [(false, [.sc (.int .i64 (chP c s a b))]), (true, setC (setN s))] ∧ S = []) := by
 refine E_fn Tryz.func62 rfl (Nat.le_of_ble_eq_true rfl) ?_
 have hl := crk_lens hc
 have hsp := set_parts hs
 have hsr := nxSeed_in s.seed
 refine E_seq ?_
 refine E_region' (L := [0, 1, 2, 3]) rfl ?_
 refine x_box rfl rfl rfl rfl rfl ?_
 refine x_box rfl rfl rfl rfl rfl ?_
 refine xas ?_
 refine x_alloc rfl rfl rfl rfl za_34 ?_
 refine EOps_nil ?_
 refine E_seq ?_
 refine E_seq ?_
 refine e_tidy [0, 1, 2, 3, 4, 5, 8, 9] ?_
 refine E_region' (L := [0, 1, 2, 3, 4, 5, 6, 7, 8, 9, 10, 11, 12, 13, 14, 15, 16, 17, 18, 19, 20, 21, 22, 23]) rfl ?_
 refine x_light rfl rfl rfl (L_load rfl (by first | exact d_bp ty_29 | exact ld_rp ty_29 rfl | exact d_ep ty_29)) ?_
 refine x_call rfl rfl rfl rfl rfl ca_36 (c_spec_IsCracker c) ?_
 rintro r S ⟨rfl, rfl⟩
 refine x_pure rfl rfl rfl (L_not rfl rfl) ?_
 refine xmv ?_
 refine EOps_split 14 (b := _) rfl (fun hg14 => ?_) (fun hg14 => ?_)
 ·simp [hc] at hg14
 ·refine x_light rfl rfl rfl (L_load rfl (by first | exact d_bp ty_34 | exact ld_rp ty_34 rfl | exact d_ep ty_34)) ?_
  refine x_call rfl rfl rfl rfl rfl ca_23 (c_spec_IsSettings s) ?_
  rintro r S ⟨rfl, rfl⟩
  refine x_pure rfl rfl rfl (L_not rfl rfl) ?_
  refine x_pure rfl rfl rfl (L_pick rfl rfl) ?_
  refine xmv ?_
  refine EOps_split 19 (b := _) rfl (fun hg19 => ?_) (fun hg19 => ?_)
  ·simp [hs] at hg19
  ·refine xmv ?_
   refine x_pure rfl rfl rfl (L_bin rfl rfl rfl rfl) ?_
   refine x_pure rfl rfl rfl (L_pick rfl rfl) ?_
   refine xmv ?_
   refine EOps_split 23 (b := _) rfl (fun hg23 => ?_) (fun hg23 => ?_)
   ·simp at hg23; omega
   ·refine xmv ?_
    refine xmv ?_
    refine x_pure rfl rfl rfl (L_bin rfl rfl rfl rfl) ?_
    refine x_pure rfl rfl rfl (L_pick rfl rfl) ?_
    refine xmv ?_
    refine EOps_split 28 (b := _) rfl (fun hg28 => ?_) (fun hg28 => ?_)
    ·simp at hg28; omega
    ·refine xmv ?_
     refine x_pure rfl rfl rfl (l_field rfl fo_29_0) ?_
     refine x_light rfl rfl rfl (L_load rfl (by first | exact d_bp ty_22 | exact ld_rp ty_22 rfl | exact d_ep ty_22)) ?_
     refine x_pure rfl rfl rfl (l_len rfl sl_22) ?_
     refine x_pure rfl rfl rfl (L_bin rfl rfl rfl rfl) ?_
     refine x_pure rfl rfl rfl (L_pick rfl rfl) ?_
     refine EOps_nil ?_
     refine E_cond rfl (fun hc34 => ?_) (fun hc34 => ?_)
     ·simp [ints_len] at hc34; omega
     ·refine E_skip ?_
      refine E_seq ?_
      refine E_region' (L := [0, 1, 2]) rfl ?_
      refine x_light rfl rfl rfl (L_load rfl (by first | exact d_bp ty_34 | exact ld_rp ty_34 rfl | exact d_ep ty_34)) ?_
      refine x_alloc rfl rfl rfl rfl za_34 ?_
      refine EOps_go rfl rfl (EOp_store rfl rfl rfl (by first | exact s_bp ty_34 | exact s_ep ty_34) ?_)
      refine EOps_nil ?_
      refine E_seq ?_
      refine E_seq ?_
      refine E_region' (L := [0, 1, 2]) rfl ?_
      refine x_pure rfl rfl rfl (l_field rfl fo_34_0) ?_
      refine x_light rfl rfl rfl (L_load rfl (by first | exact d_bp ty_3 | exact ld_rp ty_3 rfl | exact d_ep ty_3)) ?_
      refine x_pure rfl rfl rfl (L_bin rfl rfl rfl rfl) ?_
      refine EOps_nil ?_
      refine E_cond rfl (fun hc39 => ?_) (fun hc39 => ?_)
      ·have hp : s.pol = 2 := by simpa using hc39
       have h1 := Int.emod_nonneg (nxSeed s.seed) (show (b : Int) - a ≠ 0 by omega)
       have h2 := Int.emod_lt_of_pos (nxSeed s.seed) (show 0 < (b : Int) - a by omega)
       obtain ⟨i, hi⟩ : ∃ i : Nat, (a : Int) + nxSeed s.seed % ((b : Int) - a) = i := ⟨_, (Int.toNat_of_nonneg (by omega)).symm⟩
       obtain ⟨x, hx⟩ := at_lt (l := c.vals) (k := i) (by omega)
       have hch : chP c s a b = x := by rw [chP, if_pos hp, hi, Int.toNat_natCast, getD_x hx]
       have hsn : setN s = ⟨s.pol, s.thr, nxSeed s.seed⟩ := by rw [setN, if_pos hp]
       refine E_seq ?_
       refine e_tidy [0, 1, 2, 3, 4, 5, 8, 9, 10, 34, 39] ?_
       refine E_region' (L := [0, 1, 2, 3, 4]) rfl ?_
       refine x_pure rfl rfl rfl (l_field rfl fo_34_2) ?_
       refine x_light rfl rfl rfl (L_load rfl (by first | exact d_bp ty_3 | exact ld_rp ty_3 rfl | exact d_ep ty_3)) ?_
       refine x_call rfl rfl rfl rfl rfl ca_76 (c_spec_NextSeed s.seed hsp.2.2) ?_
       rintro r S ⟨rfl, rfl⟩
       refine x_pure rfl rfl rfl (l_field rfl fo_34_2) ?_
       refine EOps_go rfl rfl (EOp_store rfl rfl rfl (by first | exact s_bp ty_3 | exact s_ep ty_3) ?_)
       refine EOps_nil ?_
       refine E_seq ?_
       refine E_drawT mixed ?_
       refine t_old 0 rfl rfl rfl (l_field rfl fo_29_0) ?_
       refine t_light 1 rfl rfl rfl (L_load rfl (by first | exact d_bp ty_22 | exact ld_rp ty_22 rfl | exact d_ep ty_22)) ?_
       refine t_old 2 rfl rfl rfl (L_move rfl) ?_
       refine t_old 3 rfl rfl rfl (l_field rfl fo_34_2) ?_
       refine t_light 4 rfl rfl rfl (L_load rfl (by first | exact d_bp ty_3 | exact ld_rp ty_3 rfl | exact d_ep ty_3)) ?_
       refine t_old 5 rfl rfl rfl (L_move rfl) ?_
       refine t_old 6 rfl rfl rfl (L_move rfl) ?_
       refine t_old 7 rfl rfl rfl (by first | exact l_sub rfl rfl rfl | exact L_bin rfl rfl rfl rfl) ?_
       refine t_old 8 rfl rfl rfl (L_rem rfl rfl rfl (by omega) (by first | decide | omega)) ?_
       refine t_old 9 rfl rfl rfl (by first | exact l_add rfl rfl rfl | exact L_bin rfl rfl rfl rfl) ?_
       rw [hi]
       refine t_old 10 rfl rfl rfl (L_index rfl rfl (by first | exact i_ro sl_22 ty_3 | exact i_sl sl_22 ty_3)) ?_
       refine t_light 11 rfl rfl rfl (L_load rfl (by first | exact d_bp ty_3 | exact ld_rp ty_3 rfl | exact d_ep ty_3)) ?_
       refine t_light 12 rfl rfl rfl (L_load rfl (by first | exact d_bp ty_34 | exact ld_rp ty_34 rfl | exact d_ep ty_34)) ?_
       refine t_old 13 rfl rfl rfl (L_assign rfl) ?_
       refine t_turn 14 rfl rfl (EOp_store rfl rfl rfl (by first | exact s_bp ty_34 | exact s_ep ty_34) ?_)
       refine T_done (by kernel_rfl) ?_
       refine E_ret ?_
       rw [hch, hsn]
       exact ⟨_, [], rfl, rfl, rfl, rfl⟩
      ·have hp : ¬ s.pol = 2 := by simpa using hc39
       have hch : chP c s a b = medI (cutV c.vals a b) := by rw [chP, if_neg hp]
       have hsn : setN s = s := by rw [setN, if_neg hp]
       have hcl : ((cutV c.vals a b).length : Int) = b - a := cutV_len (by omega) (by omega) (by omega)
       refine E_skip ?_
       refine E_seq ?_
       refine e_tidy [0, 1, 2, 3, 4, 5, 8, 9, 10, 34, 39] ?_
       refine E_drawT mixed ?_
       refine t_old 0 rfl rfl rfl (l_field rfl fo_29_0) ?_
       refine t_light 1 rfl rfl rfl (L_load rfl (by first | exact d_bp ty_22 | exact ld_rp ty_22 rfl | exact d_ep ty_22)) ?_
       refine t_old 2 rfl rfl rfl (L_move rfl) ?_
       refine t_old 3 rfl rfl rfl (L_move rfl) ?_
       refine t_old 4 rfl rfl rfl (Pure.as (L_slice_roI (l := (a : Int)) (h := (b : Int)) rfl sl_22 ty_3 rfl rfl rfl (by first | omega | (simp [ints_len, pairs_len, quads_len, quints_len, bools_len]; omega) | (simp [ints_len, pairs_len, quads_len, quints_len, bools_len] at *; omega)) (by first | omega | (simp [ints_len, pairs_len, quads_len, quints_len, bools_len]; omega) | (simp [ints_len, pairs_len, quads_len, quints_len, bools_len] at *; omega)) (by first | omega | (simp [ints_len, pairs_len, quads_len, quints_len, bools_len]; omega) | (simp [ints_len, pairs_len, quads_len, quints_len, bools_len] at *; omega)) (by first | exact fun r hr => (ints_row _ r hr).1 | exact fun r hr => (pairs_row _ r hr).1 | exact fun r hr => (quads_row _ r hr).1 | exact fun r hr => (quints_row _ r hr).1 | exact fun r hr => (bools_row _ r hr).1)) (y' := .c (.ro (ints (cutV c.vals a b)))) (by first | (simp [ints_cut, pairs_cut, bools_cut, ints_take, pairs_take, bools_take]; done) | (simp [ints_cut, pairs_cut, bools_cut, ints_take, pairs_take, bools_take]; rfl))) ?_
       refine t_light 6 rfl rfl rfl (L_load rfl (by first | exact d_bp ty_34 | exact ld_rp ty_34 rfl | exact d_ep ty_34)) ?_
       refine t_call 5 rfl rfl rfl rfl rfl ca_77 (c_spec_MedianOf (cutV c.vals a b) (by omega) (by omega)) ?_
       rintro r S ⟨rfl, rfl⟩
       refine t_old 7 rfl rfl rfl (L_assign rfl) ?_
       refine t_turn 8 rfl rfl (EOp_store rfl rfl rfl (by first | exact s_bp ty_34 | exact s_ep ty_34) ?_)
       refine T_done (by kernel_rfl) ?_
       refine E_ret ?_
       rw [hch, hsn]
       exact ⟨_, [], rfl, rfl, rfl, rfl⟩

end Go.Proofs.YthnadkagchbhbaaGreat.E
