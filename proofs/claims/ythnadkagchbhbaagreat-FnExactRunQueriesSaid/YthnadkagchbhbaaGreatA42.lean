/- Walks through functions, by program out of the session's annotations. -/
import Derived.Test.YthnadkagchbhbaaGreatA40
import Derived.Test.YthnadkagchbhbaaGreatA20
import Derived.Test.YthnadkagchbhbaaGreatF3
namespace Go.Proofs.YthnadkagchbhbaaGreat.E
open Go Go.RowKit Go.Proofs
set_option linter.unusedVariables false
set_option linter.unusedSimpArgs false

def isRng (r : Int × Int) : Bool := decide (-1000 ≤ r.1) && decide (r.1 ≤ r.2) && decide (r.2 ≤ 1000)
theorem rng_bnd {r : Int × Int} (h : isRng r = true) : bnd r.1 = true ∧ bnd r.2 = true := by
 simp only [isRng, Bool.and_eq_true, decide_eq_true_eq] at h
 simp only [bnd, isIn, Bool.and_eq_true, decide_eq_true_eq]
 omega
theorem crackC_ok {c : Crk} {v : Int} (hc : isCrk c = true) (hv : bnd v = true) : isCrk (crackC c v).1 = true ∧ (crackC c v).2.length ≤ 64 := by
 have hl := crk_lens hc
 have hb := pc_bounds hc v
 cases hp : isPv c.piv v
 ·have hcr : crackC c v = (withPv (swaped c (partC c v).1) (v, (partC c v).2), (partC c v).1) := by rw [crackC, if_neg (by simp [hp])]
  obtain ⟨at_, k1, k2, k3, k4, k5, k6, k7⟩ := crack_ok hc hv hp
  rw [hcr]
  exact ⟨k7, by dsimp only; omega⟩
 ·have hcr : crackC c v = (c, []) := by rw [crackC, if_pos hp]
  rw [hcr]
  exact ⟨hc, by simp⟩
theorem c_spec_CrackAt_ok (c : Crk) (v : Int) (hc : isCrk c = true) (hv : bnd v = true) : EFn Tryz.prog 78 [.agg (crkC c), .c (.sc (.int .i64 v))] [] (fun r S => r = .tup [(true, crkO 0 (crackC c v).1), (false, [.sl 3 0 (crackC c v).2.length (crackC c v).2.length]), (false, [.sc (.bool true)])] ∧ S = crkR 3 76 (crackC c v).1 ++ [.row 120 2 (pairs (crackC c v).2)]) := by
 have hl := crk_lens hc
 have h := c_spec_CrackAt c v ⟨by omega, by omega, by omega⟩
 have hk : crkAtK c v = true := by simp [crkAtK, hc, hv]
 have e1 : crkAtC c v = (crackC c v).1 := by simp [crkAtC, hk]
 have e2 : crkAtS c v = (crackC c v).2 := by simp [crkAtS, hk]
 rw [hk, e1, e2] at h
 exact h
set_option maxRecDepth 20000 in
set_option maxHeartbeats 2000000 in
theorem c_spec_IsRange (r : Int × Int) : EFn Tryz.prog 35 [.agg [.sc (.int .i64 r.1), .sc (.int .i64 r.2)]] [] (fun y S => y = .c (.sc (.bool (isRng r))) ∧ S = []) := by
 refine E_fn Tryz.func35 rfl (Nat.le_of_ble_eq_true rfl) ?_
 refine E_seq ?_
 refine E_region' (L := [0, 1]) rfl ?_
 refine x_box rfl rfl rfl rfl rfl ?_
 refine xas ?_
 refine EOps_nil ?_
 refine E_seq ?_
 refine E_region' (L := [0, 1, 2, 3, 4, 5, 6, 7, 8, 9, 10]) rfl ?_
 refine x_pure rfl rfl rfl (l_field rfl fo_54_0) ?_
 refine x_light rfl rfl rfl (L_load rfl (by first | exact d_bp ty_3 | exact ld_rp ty_3 rfl | exact d_ep ty_3)) ?_
 refine x_call rfl rfl rfl rfl rfl ca_34 (c_spec_l1In r.1 (-1000) 1000) ?_
 rintro r S ⟨rfl, rfl⟩
 refine xmv ?_
 refine EOps_split 6 (b := _) rfl (fun hg6 => ?_) (fun hg6 => ?_)
 ·refine x_pure rfl rfl rfl (l_field rfl fo_54_1) ?_
  refine x_light rfl rfl rfl (L_load rfl (by first | exact d_bp ty_3 | exact ld_rp ty_3 rfl | exact d_ep ty_3)) ?_
  refine x_pure rfl rfl rfl (l_field rfl fo_54_0) ?_
  refine x_light rfl rfl rfl (L_load rfl (by first | exact d_bp ty_3 | exact ld_rp ty_3 rfl | exact d_ep ty_3)) ?_
  refine x_call rfl rfl rfl rfl rfl ca_34 (c_spec_l1In r.2 r.1 1000) ?_
  rintro r S ⟨rfl, rfl⟩
  refine x_pure rfl rfl rfl (L_pick rfl rfl) ?_
  refine xas ?_
  refine EOps_nil ?_
  refine E_ret ?_
  refine ⟨_, [], rfl, rfl, ?_, rfl⟩
  first
   | (simp [isIn] at hg6; show AV.c (.sc (.bool (isIn r.2 r.1 1000))) = _; simp [isRng, isIn, hg6]; done)
   | (simp [isIn] at hg6; show AV.c (.sc (.bool false)) = _; simp [isRng]; omega)
 ·refine x_skip rfl rfl rfl ?_
  refine x_skip rfl rfl rfl ?_
  refine x_skip rfl rfl rfl ?_
  refine x_skip rfl rfl rfl ?_
  refine x_skip rfl rfl rfl ?_
  refine x_pure rfl rfl rfl (L_pick rfl rfl) ?_
  refine xas ?_
  refine EOps_nil ?_
  refine E_ret ?_
  refine ⟨_, [], rfl, rfl, ?_, rfl⟩
  first
   | (simp [isIn] at hg6; show AV.c (.sc (.bool (isIn r.2 r.1 1000))) = _; simp [isRng, isIn, hg6]; done)
   | (simp [isIn] at hg6; show AV.c (.sc (.bool false)) = _; simp [isRng]; omega)

set_option maxRecDepth 20000 in
set_option maxHeartbeats 2000000 in
theorem c_impl_IsRange (r : Int × Int) : EFn Tryz.prog 56 [.agg [.sc (.int .i64 r.1), .sc (.int .i64 r.2)]] [] (fun y S => y = .c (.sc (.bool (isRng r))) ∧ S = []) := by
 refine E_fn Tryz.func56 rfl (Nat.le_of_ble_eq_true rfl) ?_
 refine E_seq ?_
 refine E_region' (L := [0, 1]) rfl ?_
 refine x_box rfl rfl rfl rfl rfl ?_
 refine xas ?_
 refine EOps_nil ?_
 refine E_seq ?_
 refine E_region' (L := [0, 1, 2, 3, 4, 5, 6, 7, 8, 9, 10, 11, 12, 13, 14, 15]) rfl ?_
 refine x_pure rfl rfl rfl (l_field rfl fo_54_0) ?_
 refine x_light rfl rfl rfl (L_load rfl (by first | exact d_bp ty_3 | exact ld_rp ty_3 rfl | exact d_ep ty_3)) ?_
 refine x_pure rfl rfl rfl (L_bin rfl rfl rfl rfl) ?_
 refine xmv ?_
 refine EOps_split 6 (b := _) rfl (fun hg6 => ?_) (fun hg6 => ?_)
 ·refine x_pure rfl rfl rfl (l_field rfl fo_54_0) ?_
  refine x_light rfl rfl rfl (L_load rfl (by first | exact d_bp ty_3 | exact ld_rp ty_3 rfl | exact d_ep ty_3)) ?_
  refine x_pure rfl rfl rfl (l_field rfl fo_54_1) ?_
  refine x_light rfl rfl rfl (L_load rfl (by first | exact d_bp ty_3 | exact ld_rp ty_3 rfl | exact d_ep ty_3)) ?_
  refine x_pure rfl rfl rfl (L_bin rfl rfl rfl rfl) ?_
  refine x_pure rfl rfl rfl (L_pick rfl rfl) ?_
  refine xmv ?_
  refine EOps_split 13 (b := _) rfl (fun hg13 => ?_) (fun hg13 => ?_)
  ·refine x_pure rfl rfl rfl (l_field rfl fo_54_1) ?_
   refine x_light rfl rfl rfl (L_load rfl (by first | exact d_bp ty_3 | exact ld_rp ty_3 rfl | exact d_ep ty_3)) ?_
   refine x_pure rfl rfl rfl (L_bin rfl rfl rfl rfl) ?_
   refine x_pure rfl rfl rfl (L_pick rfl rfl) ?_
   refine xas ?_
   refine EOps_nil ?_
   refine E_ret ?_
   refine ⟨_, [], rfl, rfl, ?_, rfl⟩
   simp [AV.ren, ren_sc, ren_ro, AC.ren, AC.ren.rens, ix, rv1, E.get, E.ev, E.cv, E.fill', E.fill, E.slotsOf, isRng, isIn, *] at *
   try omega
  ·refine x_skip rfl rfl rfl ?_
   refine x_skip rfl rfl rfl ?_
   refine x_skip rfl rfl rfl ?_
   refine x_pure rfl rfl rfl (L_pick rfl rfl) ?_
   refine xas ?_
   refine EOps_nil ?_
   refine E_ret ?_
   refine ⟨_, [], rfl, rfl, ?_, rfl⟩
   simp [AV.ren, ren_sc, ren_ro, AC.ren, AC.ren.rens, ix, rv1, E.get, E.ev, E.cv, E.fill', E.fill, E.slotsOf, isRng, isIn, *] at *
   try omega
 ·refine x_skip rfl rfl rfl ?_
  refine x_skip rfl rfl rfl ?_
  refine x_skip rfl rfl rfl ?_
  refine x_skip rfl rfl rfl ?_
  refine x_skip rfl rfl rfl ?_
  refine x_pure rfl rfl rfl (L_pick rfl rfl) ?_
  refine xmv ?_
  refine x_skip rfl rfl rfl ?_
  refine x_skip rfl rfl rfl ?_
  refine x_skip rfl rfl rfl ?_
  refine x_pure rfl rfl rfl (L_pick rfl rfl) ?_
  refine xas ?_
  refine EOps_nil ?_
  refine E_ret ?_
  refine ⟨_, [], rfl, rfl, ?_, rfl⟩
  simp [AV.ren, ren_sc, ren_ro, AC.ren, AC.ren.rens, ix, rv1, E.get, E.ev, E.cv, E.fill', E.fill, E.slotsOf, isRng, isIn, *] at *
  try omega

set_option maxRecDepth 20000 in
set_option maxHeartbeats 2000000 in
theorem c_laws_toRange (x y : Int) : EFn Tryz.prog 26 [.agg [.sc (.int .i64 x), .sc (.int .i64 y)]] [] (fun r S => r = .agg [.sc (.int .i64 x), .sc (.int .i64 y)] ∧ S = []) := by
 refine E_fn Tryz.func26 rfl (Nat.le_of_ble_eq_true rfl) ?_
 refine E_seq ?_
 refine E_region' (L := [0, 1]) rfl ?_
 refine x_box rfl rfl rfl rfl rfl ?_
 refine x_alloc rfl rfl rfl rfl za_54 ?_
 refine EOps_nil ?_
 refine E_seq ?_
 refine E_region' (L := [0]) rfl ?_
 refine x_alloc rfl rfl rfl rfl za_54 ?_
 refine EOps_nil ?_
 refine E_seq ?_
 refine E_region' (L := [0, 1, 2, 3]) rfl ?_
 refine x_pure rfl rfl rfl (l_field rfl fo_56_0) ?_
 refine x_light rfl rfl rfl (L_load rfl (by first | exact d_bp ty_3 | exact ld_rp ty_3 rfl | exact d_ep ty_3)) ?_
 refine x_pure rfl rfl rfl (l_field rfl fo_54_0) ?_
 refine EOps_go rfl rfl (EOp_store rfl rfl rfl (by first | exact s_bp ty_3 | exact s_ep ty_3) ?_)
 refine EOps_nil ?_
 refine E_seq ?_
 refine E_region' (L := [0, 1, 2, 3]) rfl ?_
 refine x_pure rfl rfl rfl (l_field rfl fo_56_1) ?_
 refine x_light rfl rfl rfl (L_load rfl (by first | exact d_bp ty_3 | exact ld_rp ty_3 rfl | exact d_ep ty_3)) ?_
 refine x_pure rfl rfl rfl (l_field rfl fo_54_1) ?_
 refine EOps_go rfl rfl (EOp_store rfl rfl rfl (by first | exact s_bp ty_3 | exact s_ep ty_3) ?_)
 refine EOps_nil ?_
 refine E_seq ?_
 refine E_region' (L := [0, 1]) rfl ?_
 refine x_light rfl rfl rfl (L_load rfl (by first | exact d_bp ty_54 | exact ld_rp ty_54 rfl | exact d_ep ty_54)) ?_
 refine EOps_go rfl rfl (EOp_store rfl rfl rfl (by first | exact s_bp ty_54 | exact s_ep ty_54) ?_)
 refine EOps_nil ?_
 refine E_ret ?_
 exact ⟨_, [], rfl, rfl, rfl, rfl⟩

end Go.Proofs.YthnadkagchbhbaaGreat.E
