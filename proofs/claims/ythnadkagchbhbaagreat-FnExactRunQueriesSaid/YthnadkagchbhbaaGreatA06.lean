/- Walks through functions, by program out of the session's annotations. -/
import Derived.Test.YthnadkagchbhbaaGreatA05
namespace Go.Proofs.YthnadkagchbhbaaGreat.E
open Go Go.RowKit Go.Proofs
set_option linter.unusedVariables false
set_option linter.unusedSimpArgs false

set_option maxRecDepth 20000 in
set_option maxHeartbeats 2000000 in
theorem c_laws_eqPivot (a b : Int × Int) : EFn Tryz.prog 47 [.agg [.sc (.int .i64 a.1), .sc (.int .i64 a.2)], .agg [.sc (.int .i64 b.1), .sc (.int .i64 b.2)]] [] (fun r S => r = .c (.sc (.bool (decide (a = b)))) ∧ S = []) := by
 refine E_fn Tryz.func47 rfl (Nat.le_of_ble_eq_true rfl) ?_
 obtain ⟨a1, a2⟩ := a
 obtain ⟨b1, b2⟩ := b
 refine E_seq ?_
 refine E_region' (L := [0, 1, 2]) rfl ?_
 refine x_box rfl rfl rfl rfl rfl ?_
 refine x_box rfl rfl rfl rfl rfl ?_
 refine xas ?_
 refine EOps_nil ?_
 refine E_seq ?_
 refine E_seq ?_
 refine E_region' (L := [0, 1, 2, 3, 4]) rfl ?_
 refine x_pure rfl rfl rfl (l_field rfl fo_76_0) ?_
 refine x_light rfl rfl rfl (L_load rfl (by first | exact d_bp ty_3 | exact ld_rp ty_3 rfl | exact d_ep ty_3)) ?_
 refine x_pure rfl rfl rfl (l_field rfl fo_76_0) ?_
 refine x_light rfl rfl rfl (L_load rfl (by first | exact d_bp ty_3 | exact ld_rp ty_3 rfl | exact d_ep ty_3)) ?_
 refine x_pure rfl rfl rfl (L_bin rfl rfl rfl rfl) ?_
 refine EOps_nil ?_
 refine E_cond rfl (fun hc9 => ?_) (fun hc9 => ?_)
 ·refine E_seq ?_
  refine E_region' (L := [0]) rfl ?_
  refine xas ?_
  refine EOps_nil ?_
  refine E_ret ?_
  refine ⟨_, [], rfl, rfl, bool_eq ?_, rfl⟩
  simp_all [tc]
 ·refine E_skip ?_
  refine E_seq ?_
  refine E_seq ?_
  refine E_region' (L := [0, 1, 2, 3, 4]) rfl ?_
  refine x_pure rfl rfl rfl (l_field rfl fo_76_1) ?_
  refine x_light rfl rfl rfl (L_load rfl (by first | exact d_bp ty_3 | exact ld_rp ty_3 rfl | exact d_ep ty_3)) ?_
  refine x_pure rfl rfl rfl (l_field rfl fo_76_1) ?_
  refine x_light rfl rfl rfl (L_load rfl (by first | exact d_bp ty_3 | exact ld_rp ty_3 rfl | exact d_ep ty_3)) ?_
  refine x_pure rfl rfl rfl (L_bin rfl rfl rfl rfl) ?_
  refine EOps_nil ?_
  refine E_cond rfl (fun hc14 => ?_) (fun hc14 => ?_)
  ·refine E_seq ?_
   refine E_region' (L := [0]) rfl ?_
   refine xas ?_
   refine EOps_nil ?_
   refine E_ret ?_
   refine ⟨_, [], rfl, rfl, bool_eq ?_, rfl⟩
   simp_all [tc]
  ·refine E_skip ?_
   refine E_seq ?_
   refine E_region' (L := [0]) rfl ?_
   refine xas ?_
   refine EOps_nil ?_
   refine E_ret ?_
   refine ⟨_, [], rfl, rfl, bool_eq ?_, rfl⟩
   simp_all [tc]

set_option maxRecDepth 20000 in
set_option maxHeartbeats 2000000 in
theorem c_laws_eqPivotS (xs ys : List (Int × Int)) : EFn Tryz.prog 30 [.c (.ro (pairs xs)), .c (.ro (pairs ys))] [] (fun r S => r = .c (.sc (.bool (decide (xs = ys)))) ∧ S = []) := by
 refine E_fn Tryz.func30 rfl (Nat.le_of_ble_eq_true rfl) ?_
 refine E_bound (t := 0) (rows := pairs xs) rfl fun hb => ?_
 rw [pairs_len] at hb
 refine E_seq ?_
 refine E_region' (L := [0]) rfl ?_
 refine xas ?_
 refine EOps_nil ?_
 refine E_seq ?_
 refine E_seq ?_
 refine E_region' (L := [0, 1, 2, 3, 4]) rfl ?_
 refine xmv ?_
 refine x_pure rfl rfl rfl (l_len rfl sl_27) ?_
 refine xmv ?_
 refine x_pure rfl rfl rfl (l_len rfl sl_27) ?_
 refine x_pure rfl rfl rfl (L_bin rfl rfl rfl rfl) ?_
 refine EOps_nil ?_
 refine E_cond rfl (fun hc10 => ?_) (fun hc10 => ?_)
 ·have hne : xs ≠ ys := fun e => by subst e; simp at hc10
  refine E_seq ?_
  refine E_region' (L := [0]) rfl ?_
  refine xas ?_
  refine EOps_nil ?_
  refine E_ret ?_
  refine ⟨_, [], rfl, rfl, ?_, rfl⟩
  simp [AV.ren, ren_sc, ren_ro, AC.ren, AC.ren.rens, ix, rv1, E.get, E.ev, E.cv, E.fill', E.fill, E.slotsOf, hne]
 ·have hlen : xs.length = ys.length := by simp [pairs_len] at hc10; omega
  refine E_skip ?_
  refine E_seq ?_
  refine E_seq ?_
  refine E_region' (L := [0]) rfl ?_
  refine xas ?_
  refine EOps_nil ?_
  refine E_block ?_
  refine e_for (α := Nat) [0, 1, 10] (fun k => [(5, .c (.sc (.int .i64 (k))))]) (fun _ => _) (fun k => k ≤ xs.length ∧ xs.take k = ys.take k) (fun k => xs.length - k) (0) ?_ (rfl) ⟨.inr rfl, trivial⟩ ?_
  ·simp
  rintro k ⟨hk, htk⟩
  refine E_seq ?_
  refine E_seq ?_
  refine E_region' (L := [0, 1, 2, 3]) rfl ?_
  refine xmv ?_
  refine xmv ?_
  refine x_pure rfl rfl rfl (l_len rfl sl_27) ?_
  refine x_pure rfl rfl rfl (L_bin rfl rfl rfl rfl) ?_
  refine EOps_nil ?_
  refine E_cond rfl (fun hc14 => ?_) (fun hc14 => ?_)
  ·have hc14' : k < (xs).length := by simpa [ints_len, bools_len, pairs_len, quads_len, quints_len] using hc14
   obtain ⟨x, hx⟩ : ∃ x, (xs)[k]? = some x := ⟨_, List.getElem?_eq_getElem hc14'⟩
   obtain ⟨y, hy⟩ : ∃ y, ys[k]? = some y := ⟨_, List.getElem?_eq_getElem (hlen ▸ hc14')⟩
   refine E_skip ?_
   refine E_seq ?_
   refine E_block ?_
   refine E_seq ?_
   refine E_drawT mixed ?_
   refine t_old 0 rfl rfl rfl (L_move rfl) ?_
   refine t_old 1 rfl rfl rfl (L_move rfl) ?_
   refine t_old 2 rfl rfl rfl (L_index rfl rfl (by first | exact i_ro sl_27 ty_76 | exact i_sl sl_27 ty_76)) ?_
   refine t_light 3 rfl rfl rfl (L_load rfl (by first | exact d_bp ty_76 | exact ld_rp ty_76 rfl | exact d_ep ty_76)) ?_
   refine t_old 4 rfl rfl rfl (L_move rfl) ?_
   refine t_old 5 rfl rfl rfl (L_move rfl) ?_
   refine t_old 6 rfl rfl rfl (L_index rfl rfl (by first | exact i_ro sl_27 ty_76 | exact i_sl sl_27 ty_76)) ?_
   refine t_light 7 rfl rfl rfl (L_load rfl (by first | exact d_bp ty_76 | exact ld_rp ty_76 rfl | exact d_ep ty_76)) ?_
   refine t_call 8 rfl rfl rfl rfl rfl ca_47 (c_laws_eqPivot x y) ?_
   rintro r S ⟨rfl, rfl⟩
   refine t_old 9 rfl rfl rfl (L_not rfl rfl) ?_
   refine T_done (by kernel_rfl) ?_
   refine E_cond rfl (fun hc26 => ?_) (fun hc26 => ?_)
   ·have hne : xs ≠ ys := fun e => by subst e; rw [hx] at hy; cases hy; simp at hc26
    refine E_seq ?_
    refine E_region' (L := [0]) rfl ?_
    refine xas ?_
    refine EOps_nil ?_
    refine E_ret ?_
    refine ⟨_, [], rfl, rfl, ?_, rfl⟩
    simp [AV.ren, ren_sc, ren_ro, AC.ren, AC.ren.rens, ix, rv1, E.get, E.ev, E.cv, E.fill', E.fill, E.slotsOf, hne]
   ·have hxy : x = y := by simpa using hc26
    refine E_skip ?_
    refine E_region' (L := [0, 1, 2]) rfl ?_
    refine xmv ?_
    refine x_pure rfl rfl rfl (by first | exact l_add rfl rfl rfl | exact L_bin rfl rfl rfl rfl) ?_
    refine xas ?_
    refine EOps_nil ?_
    refine ⟨k + 1, ?_, ?_, rfl, ⟨.inr rfl, trivial⟩, ⟨.inr rfl, .inr rfl, .inr rfl, trivial⟩⟩
    ·first | omega | (dsimp only; omega) | (simp; omega)
    ·exact ⟨by omega, by rw [List.take_add_one, List.take_add_one, htk, hx, hy, hxy]⟩
  ·have hk' : xs.length ≤ k := by simpa [pairs_len] using hc14
   have heq : xs = ys := by rw [List.take_of_length_le hk', List.take_of_length_le (by omega)] at htk; exact htk
   refine E_exit ?_
   refine E_seq ?_
   refine E_region' (L := [0]) rfl ?_
   refine xas ?_
   refine EOps_nil ?_
   refine E_ret ?_
   refine ⟨_, [], rfl, rfl, ?_, rfl⟩
   simp [AV.ren, ren_sc, ren_ro, AC.ren, AC.ren.rens, ix, rv1, E.get, E.ev, E.cv, E.fill', E.fill, E.slotsOf, heq]

set_option maxRecDepth 20000 in
set_option maxHeartbeats 2000000 in
theorem c_laws_eqCracker (a b : Crk) : EFn Tryz.prog 10 [.agg (crkC a), .agg (crkC b)] [] (fun r S => r = .c (.sc (.bool (decide (a = b)))) ∧ S = []) := by
 refine E_fn Tryz.func10 rfl (Nat.le_of_ble_eq_true rfl) ?_
 obtain ⟨a1, a2, a3⟩ := a
 obtain ⟨b1, b2, b3⟩ := b
 refine E_seq ?_
 refine E_region' (L := [0, 1, 2]) rfl ?_
 refine x_box rfl rfl rfl rfl rfl ?_
 refine x_box rfl rfl rfl rfl rfl ?_
 refine xas ?_
 refine EOps_nil ?_
 refine E_seq ?_
 refine E_seq ?_
 refine E_region' (L := [0, 1, 2, 3, 4, 5]) rfl ?_
 refine x_pure rfl rfl rfl (l_field rfl fo_29_0) ?_
 refine x_light rfl rfl rfl (L_load rfl (by first | exact d_bp ty_22 | exact ld_rp ty_22 rfl | exact d_ep ty_22)) ?_
 refine x_pure rfl rfl rfl (l_field rfl fo_29_0) ?_
 refine x_light rfl rfl rfl (L_load rfl (by first | exact d_bp ty_22 | exact ld_rp ty_22 rfl | exact d_ep ty_22)) ?_
 refine x_call rfl rfl rfl rfl rfl ca_12 (c_laws_eqIntS a1 b1) ?_ (hq := by rintro r S ⟨rfl, rfl⟩; exact ⟨rfl, rfl⟩)
 rintro r S ⟨rfl, rfl⟩
 refine x_pure rfl rfl rfl (L_not rfl rfl) ?_
 refine EOps_nil ?_
 refine E_cond rfl (fun hc10 => ?_) (fun hc10 => ?_)
 ·refine E_seq ?_
  refine E_region' (L := [0]) rfl ?_
  refine xas ?_
  refine EOps_nil ?_
  refine E_ret ?_
  refine ⟨_, [], rfl, rfl, bool_eq ?_, rfl⟩
  simp_all
 ·refine E_skip ?_
  refine E_seq ?_
  refine E_seq ?_
  refine E_region' (L := [0, 1, 2, 3, 4, 5]) rfl ?_
  refine x_pure rfl rfl rfl (l_field rfl fo_29_1) ?_
  refine x_light rfl rfl rfl (L_load rfl (by first | exact d_bp ty_22 | exact ld_rp ty_22 rfl | exact d_ep ty_22)) ?_
  refine x_pure rfl rfl rfl (l_field rfl fo_29_1) ?_
  refine x_light rfl rfl rfl (L_load rfl (by first | exact d_bp ty_22 | exact ld_rp ty_22 rfl | exact d_ep ty_22)) ?_
  refine x_call rfl rfl rfl rfl rfl ca_12 (c_laws_eqIntS a2 b2) ?_ (hq := by rintro r S ⟨rfl, rfl⟩; exact ⟨rfl, rfl⟩)
  rintro r S ⟨rfl, rfl⟩
  refine x_pure rfl rfl rfl (L_not rfl rfl) ?_
  refine EOps_nil ?_
  refine E_cond rfl (fun hc16 => ?_) (fun hc16 => ?_)
  ·refine E_seq ?_
   refine E_region' (L := [0]) rfl ?_
   refine xas ?_
   refine EOps_nil ?_
   refine E_ret ?_
   refine ⟨_, [], rfl, rfl, bool_eq ?_, rfl⟩
   simp_all
  ·refine E_skip ?_
   refine E_seq ?_
   refine E_seq ?_
   refine E_region' (L := [0, 1, 2, 3, 4, 5]) rfl ?_
   refine x_pure rfl rfl rfl (l_field rfl fo_29_2) ?_
   refine x_light rfl rfl rfl (L_load rfl (by first | exact d_bp ty_27 | exact ld_rp ty_27 rfl | exact d_ep ty_27)) ?_
   refine x_pure rfl rfl rfl (l_field rfl fo_29_2) ?_
   refine x_light rfl rfl rfl (L_load rfl (by first | exact d_bp ty_27 | exact ld_rp ty_27 rfl | exact d_ep ty_27)) ?_
   refine x_call rfl rfl rfl rfl rfl ca_30 (c_laws_eqPivotS a3 b3) ?_ (hq := by rintro r S ⟨rfl, rfl⟩; exact ⟨rfl, rfl⟩)
   rintro r S ⟨rfl, rfl⟩
   refine x_pure rfl rfl rfl (L_not rfl rfl) ?_
   refine EOps_nil ?_
   refine E_cond rfl (fun hc22 => ?_) (fun hc22 => ?_)
   ·refine E_seq ?_
    refine E_region' (L := [0]) rfl ?_
    refine xas ?_
    refine EOps_nil ?_
    refine E_ret ?_
    refine ⟨_, [], rfl, rfl, bool_eq ?_, rfl⟩
    simp_all
   ·refine E_skip ?_
    refine E_seq ?_
    refine E_region' (L := [0]) rfl ?_
    refine xas ?_
    refine EOps_nil ?_
    refine E_ret ?_
    refine ⟨_, [], rfl, rfl, bool_eq ?_, rfl⟩
    simp_all

end Go.Proofs.YthnadkagchbhbaaGreat.E
