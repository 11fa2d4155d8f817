/- Walks through functions, by program out of the session's annotations. -/
import Derived.Test.YthnadkagchbhbaaGreatA33
import Derived.Test.YthnadkagchbhbaaGreatRJ
import Derived.Test.YthnadkagchbhbaaGreatA26
namespace Go.Proofs.YthnadkagchbhbaaGreat.E
open Go Go.RowKit Go.Proofs
set_option linter.unusedVariables false
set_option linter.unusedSimpArgs false

theorem fpAt_some {l : List (Int × Int)} {v : Int} {p : Int × Int} (h : fpv l v = some p) : fpAt l v = p.2 := by rw [fpAt, h]
theorem fpAt_none {l : List (Int × Int)} {v : Int} (h : fpv l v = none) : fpAt l v = 0 := by rw [fpAt, h]
theorem isPv_some {l : List (Int × Int)} {v : Int} {p : Int × Int} (h : fpv l v = some p) : isPv l v = true := by rw [isPv, h]; rfl
theorem isPv_none {l : List (Int × Int)} {v : Int} (h : fpv l v = none) : isPv l v = false := by rw [isPv, h]; rfl
def fpT (c : Crk) (v : Int) : AV := .tup [(false, [.sc (.int .i64 (fpAt c.piv v))]), (false, [.sc (.bool (isPv c.piv v))])]
def pcT (c : Crk) (v : Int) : AV := .tup [(false, [.sc (.int .i64 (pcFrom c.piv v))]), (false, [.sc (.int .i64 (pcTo c.piv c.vals.length v))])]

set_option maxRecDepth 20000 in
set_option maxHeartbeats 2000000 in
theorem c_impl_copyCracker (c : Crk) (h : c.vals.length ≤ 1048576 ∧ c.rows.length ≤ 1048576 ∧ c.piv.length ≤ 1048576) : EFn Tryz.prog 80 [.agg (crkC c)] [] (fun r S => r = .agg (crkO 0 c) ∧ S = crkR 3 76 c) := by
 refine E_fn Tryz.func80 rfl (Nat.le_of_ble_eq_true rfl) ?_
 refine E_G (n := 0) rfl ?_
 refine G_seq ?_
 refine G_region' (L := [0, 1]) rfl ?_
 refine x_box rfl rfl rfl rfl rfl ?_
 refine x_alloc rfl rfl rfl rfl za_29 ?_
 refine EOps_nil ?_
 refine G_seq ?_
 refine G_drawT mixed ?_
 refine t_old 0 rfl rfl rfl (l_field rfl fo_29_0) ?_
 refine t_light 1 rfl rfl rfl (L_load rfl (by first | exact d_bp ty_22 | exact ld_rp ty_22 rfl | exact d_ep ty_22)) ?_
 refine t_old 3 rfl rfl rfl (l_field rfl fo_29_1) ?_
 refine t_light 4 rfl rfl rfl (L_load rfl (by first | exact d_bp ty_22 | exact ld_rp ty_22 rfl | exact d_ep ty_22)) ?_
 refine t_old 6 rfl rfl rfl (l_field rfl fo_29_2) ?_
 refine t_light 7 rfl rfl rfl (L_load rfl (by first | exact d_bp ty_27 | exact ld_rp ty_27 rfl | exact d_ep ty_27)) ?_
 refine t_fresh 2 [(⟨none, 2, 5, 0⟩, _), (⟨none, 5, 8, 0⟩, _), (⟨none, 8, 11, 0⟩, _)] [(5, .any), (8, .any), (11, .any)] [2, 5, 8] ⟨.one rfl rfl rfl (by decide) (f_call rfl rfl ca_57 (c_slices_Clone___int_int_ c.vals h.1)), .one rfl rfl rfl (by decide) (f_call rfl rfl ca_57 (c_slices_Clone___int_int_ c.rows h.2.1)), .one rfl rfl rfl (by decide) (f_call rfl rfl ca_92 (c_slices_Clone___impl_Pivot_impl_Pivot_ c.piv h.2.2)), trivial⟩ ?_
 refine fk_cons ?_
 rintro r S ⟨rfl, rfl⟩
 refine fk_cons ?_
 rintro r S ⟨rfl, rfl⟩
 refine fk_cons ?_
 rintro r S ⟨rfl, rfl⟩
 refine fk_nil ?_
 refine t_pure 9 rfl rfl rfl (L_build rfl bd_29 rfl rfl) ?_
 refine t_turn 10 rfl rfl (EOp_store rfl rfl rfl (by first | exact s_bp ty_29 | exact s_ep ty_29) ?_)
 refine T_done (by kernel_rfl) ?_
 refine G_ret ?_
 exact ⟨_, [2, 3, 4], rfl, rfl, rfl, rfl⟩

set_option maxRecDepth 20000 in
set_option maxHeartbeats 2000000 in
theorem c_spec_l4Copy (c : Crk) (h : c.vals.length ≤ 1048576 ∧ c.rows.length ≤ 1048576 ∧ c.piv.length ≤ 1048576) : EFn Tryz.prog 37 [.agg (crkC c)] [] (fun r S => r = .agg (crkO 0 c) ∧ S = crkR 3 76 c) := by
 refine E_fn Tryz.func37 rfl (Nat.le_of_ble_eq_true rfl) ?_
 refine E_G (n := 0) rfl ?_
 refine G_seq ?_
 refine G_region' (L := [0, 1]) rfl ?_
 refine x_box rfl rfl rfl rfl rfl ?_
 refine x_alloc rfl rfl rfl rfl za_29 ?_
 refine EOps_nil ?_
 refine G_seq ?_
 refine G_drawT mixed ?_
 refine t_old 1 rfl rfl rfl (l_field rfl fo_29_0) ?_
 refine t_light 2 rfl rfl rfl (L_load rfl (by first | exact d_bp ty_22 | exact ld_rp ty_22 rfl | exact d_ep ty_22)) ?_
 refine t_old 5 rfl rfl rfl (l_field rfl fo_29_1) ?_
 refine t_light 6 rfl rfl rfl (L_load rfl (by first | exact d_bp ty_22 | exact ld_rp ty_22 rfl | exact d_ep ty_22)) ?_
 refine t_old 9 rfl rfl rfl (l_field rfl fo_29_2) ?_
 refine t_light 10 rfl rfl rfl (L_load rfl (by first | exact d_bp ty_27 | exact ld_rp ty_27 rfl | exact d_ep ty_27)) ?_
 refine t_fresh 2 [(⟨some (0, 3), 3, 6, 3⟩, _), (⟨some (4, 7), 7, 10, 3⟩, _), (⟨some (8, 11), 11, 14, 76⟩, _)] [(3, .any), (6, .any), (7, .any), (10, .any), (11, .any), (14, .any)] [0, 3, 4, 7, 8, 11] ⟨.two rfl rfl rfl (by decide) (F_bslice rfl sl_22 ty_3) rfl rfl rfl (by decide) (f_append (news := ints c.vals) (m := (c.vals).length) rfl sl_22 ty_3 by_3 za_3 (ints_len _)), .two rfl rfl rfl (by decide) (F_bslice rfl sl_22 ty_3) rfl rfl rfl (by decide) (f_append (news := ints c.rows) (m := (c.rows).length) rfl sl_22 ty_3 by_3 za_3 (ints_len _)), .two rfl rfl rfl (by decide) (F_bslice rfl sl_27 ty_76) rfl rfl rfl (by decide) (f_append (news := pairs c.piv) (m := (c.piv).length) rfl sl_27 ty_76 by_76 za_76 (pairs_len _)), trivial⟩ ?_
 refine fk_cons ?_
 rintro r S ⟨rfl, rfl⟩
 refine fk_cons ?_
 rintro r S ⟨rfl, rfl⟩
 refine fk_cons ?_
 rintro r S ⟨rfl, rfl⟩
 refine fk_nil ?_
 refine t_pure 12 rfl rfl rfl (L_build rfl bd_29 rfl rfl) ?_
 refine t_turn 13 rfl rfl (EOp_store rfl rfl rfl (by first | exact s_bp ty_29 | exact s_ep ty_29) ?_)
 refine T_done (by kernel_rfl) ?_
 refine G_ret ?_
 exact ⟨_, [2, 3, 4], rfl, rfl, rfl, rfl⟩

set_option maxRecDepth 20000 in
set_option maxHeartbeats 2000000 in
theorem c_impl_FindPivot (c : Crk) (v : Int) (hb : c.piv.length ≤ 1048576) : EFn Tryz.prog 59 [.agg (crkC c), .c (.sc (.int .i64 v))] [] (fun r S => r = fpT c v ∧ S = []) := by
 refine E_fn Tryz.func59 rfl (Nat.le_of_ble_eq_true rfl) ?_
 refine E_G (n := 0) rfl ?_
 refine G_seq ?_
 refine G_region' (L := [0, 1, 2]) rfl ?_
 refine x_box rfl rfl rfl rfl rfl ?_
 refine xas ?_
 refine xas ?_
 refine EOps_nil ?_
 refine G_seq ?_
 refine G_seq ?_
 refine G_region' (L := [0, 1, 2, 3]) rfl ?_
 refine x_pure rfl rfl rfl (l_field rfl fo_29_2) ?_
 refine x_light rfl rfl rfl (L_load rfl (by first | exact d_bp ty_27 | exact ld_rp ty_27 rfl | exact d_ep ty_27)) ?_
 refine x_pure rfl rfl rfl (l_len rfl sl_27) ?_
 refine xmv ?_
 refine EOps_nil ?_
 refine G_block ?_
 refine g_forD (α := Nat) [0, 1, 2, 9, 10] (fun k => [(11, .c (.sc (.int .i64 (k))))]) (fun _ => _) (fun k => k ≤ c.piv.length ∧ ∀ q ∈ c.piv.take k, q.1 ≠ v) (fun k => c.piv.length - k) (0) ?_ (rfl) ⟨.inr rfl, trivial⟩ ?_
 ·simp
 rintro k ⟨hk, hne⟩
 refine G_seq ?_
 refine G_region' (L := [0]) rfl ?_
 refine x_pure rfl rfl rfl (L_bin rfl rfl rfl rfl) ?_
 refine EOps_nil ?_
 refine G_seq ?_
 refine G_cond rfl (fun hc12 => ?_) (fun hc12 => ?_)
 ·have hk1 : k < c.piv.length := by simpa [pairs_len] using hc12
  obtain ⟨p, hp⟩ := at_lt hk1
  refine G_skip ?_
  refine G_seq ?_
  refine G_block ?_
  refine G_seq ?_
  refine G_region' (L := [0, 1, 2, 3]) rfl ?_
  refine x_pure rfl rfl rfl (L_index rfl rfl (by first | exact i_ro sl_27 ty_76 | exact i_sl sl_27 ty_76)) ?_
  refine x_light rfl rfl rfl (L_load rfl (by first | exact d_bp ty_76 | exact ld_rp ty_76 rfl | exact d_ep ty_76)) ?_
  refine x_alloc rfl rfl rfl rfl za_76 ?_
  refine EOps_go rfl rfl (EOp_store rfl rfl rfl (by first | exact s_bp ty_76 | exact s_ep ty_76) ?_)
  refine EOps_nil ?_
  refine G_seq ?_
  refine G_region' (L := [0, 1, 2, 3]) rfl ?_
  refine x_pure rfl rfl rfl (l_field rfl fo_76_0) ?_
  refine x_light rfl rfl rfl (L_load rfl (by first | exact d_bp ty_3 | exact ld_rp ty_3 rfl | exact d_ep ty_3)) ?_
  refine xmv ?_
  refine x_pure rfl rfl rfl (L_bin rfl rfl rfl rfl) ?_
  refine EOps_nil ?_
  refine G_cond rfl (fun hc18 => ?_) (fun hc18 => ?_)
  ·have hf := fpv_at hne hp (by simpa using hc18)
   refine G_seq ?_
   refine G_region' (L := [0, 1, 2, 3]) rfl ?_
   refine x_pure rfl rfl rfl (l_field rfl fo_76_1) ?_
   refine x_light rfl rfl rfl (L_load rfl (by first | exact d_bp ty_3 | exact ld_rp ty_3 rfl | exact d_ep ty_3)) ?_
   refine xas ?_
   refine xas ?_
   refine EOps_nil ?_
   refine G_ret ?_
   refine ⟨_, [], rfl, rfl, ?_, rfl⟩
   rw [fpT, fpAt_some hf, isPv_some hf]; rfl
  ·refine G_skip ?_
   refine G_region' (L := [0, 1]) rfl ?_
   refine x_pure rfl rfl rfl (by first | exact l_add rfl rfl rfl | exact L_bin rfl rfl rfl rfl) ?_
   refine xmv ?_
   refine EOps_nil ?_
   refine ⟨[0], rfl, k + 1, ?_, ?_, rfl, ⟨.inr rfl, trivial⟩, ⟨.inr rfl, .inr rfl, .inr rfl, .inr rfl, .inr rfl, trivial⟩⟩
   ·first | omega | (dsimp only; omega) | (simp; omega)
   ·exact ⟨by omega, ne_step hne hp (by simpa using hc18)⟩
 ·have hk' : c.piv.length ≤ k := by simpa [pairs_len] using hc12
  rw [List.take_of_length_le hk'] at hne
  have hf := fpv_none hne
  refine G_exit ?_
  refine G_seq ?_
  refine G_region' (L := [0, 1]) rfl ?_
  refine xas ?_
  refine xas ?_
  refine EOps_nil ?_
  refine G_ret ?_
  refine ⟨_, [], rfl, rfl, ?_, rfl⟩
  rw [fpT, fpAt_none hf, isPv_none hf]; rfl

set_option maxRecDepth 20000 in
set_option maxHeartbeats 2000000 in
theorem c_spec_FindPivot (c : Crk) (v : Int) (hb : c.piv.length ≤ 1048576) : EFn Tryz.prog 39 [.agg (crkC c), .c (.sc (.int .i64 v))] [] (fun r S => r = fpT c v ∧ S = []) := by
 refine E_fn Tryz.func39 rfl (Nat.le_of_ble_eq_true rfl) ?_
 refine E_G (n := 0) rfl ?_
 refine G_seq ?_
 refine G_region' (L := [0, 1, 2]) rfl ?_
 refine x_box rfl rfl rfl rfl rfl ?_
 refine xas ?_
 refine xas ?_
 refine EOps_nil ?_
 refine G_seq ?_
 refine G_seq ?_
 refine G_region' (L := [0]) rfl ?_
 refine xas ?_
 refine EOps_nil ?_
 refine G_block ?_
 refine g_for (α := Nat) [0, 1, 2] (fun k => [(6, .c (.sc (.int .i64 (k))))]) (fun _ => _) (fun k => k ≤ c.piv.length ∧ ∀ q ∈ c.piv.take k, q.1 ≠ v) (fun k => c.piv.length - k) (0) ?_ (rfl) ⟨.inr rfl, trivial⟩ ?_
 ·simp
 rintro k ⟨hk, hne⟩
 refine G_seq ?_
 refine G_seq ?_
 refine G_region' (L := [0, 1, 2, 3, 4]) rfl ?_
 refine xmv ?_
 refine x_pure rfl rfl rfl (l_field rfl fo_29_2) ?_
 refine x_light rfl rfl rfl (L_load rfl (by first | exact d_bp ty_27 | exact ld_rp ty_27 rfl | exact d_ep ty_27)) ?_
 refine x_pure rfl rfl rfl (l_len rfl sl_27) ?_
 refine x_pure rfl rfl rfl (L_bin rfl rfl rfl rfl) ?_
 refine EOps_nil ?_
 refine G_cond rfl (fun hc11 => ?_) (fun hc11 => ?_)
 ·have hk1 : k < c.piv.length := by simpa [pairs_len] using hc11
  obtain ⟨p, hp⟩ := at_lt hk1
  refine G_skip ?_
  refine G_seq ?_
  refine G_block ?_
  refine G_seq ?_
  refine G_region' (L := [0, 1, 2, 3, 4, 5, 6, 7]) rfl ?_
  refine x_pure rfl rfl rfl (l_field rfl fo_29_2) ?_
  refine x_light rfl rfl rfl (L_load rfl (by first | exact d_bp ty_27 | exact ld_rp ty_27 rfl | exact d_ep ty_27)) ?_
  refine xmv ?_
  refine x_pure rfl rfl rfl (L_index rfl rfl (by first | exact i_ro sl_27 ty_76 | exact i_sl sl_27 ty_76)) ?_
  refine x_pure rfl rfl rfl (l_field rfl fo_76_0) ?_
  refine x_light rfl rfl rfl (L_load rfl (by first | exact d_bp ty_3 | exact ld_rp ty_3 rfl | exact d_ep ty_3)) ?_
  refine xmv ?_
  refine x_pure rfl rfl rfl (L_bin rfl rfl rfl rfl) ?_
  refine EOps_nil ?_
  refine G_cond rfl (fun hc21 => ?_) (fun hc21 => ?_)
  ·have hf := fpv_at hne hp (by simpa using hc21)
   refine G_seq ?_
   refine G_region' (L := [0, 1, 2, 3, 4, 5, 6, 7]) rfl ?_
   refine x_pure rfl rfl rfl (l_field rfl fo_29_2) ?_
   refine x_light rfl rfl rfl (L_load rfl (by first | exact d_bp ty_27 | exact ld_rp ty_27 rfl | exact d_ep ty_27)) ?_
   refine xmv ?_
   refine x_pure rfl rfl rfl (L_index rfl rfl (by first | exact i_ro sl_27 ty_76 | exact i_sl sl_27 ty_76)) ?_
   refine x_pure rfl rfl rfl (l_field rfl fo_76_1) ?_
   refine x_light rfl rfl rfl (L_load rfl (by first | exact d_bp ty_3 | exact ld_rp ty_3 rfl | exact d_ep ty_3)) ?_
   refine xas ?_
   refine xas ?_
   refine EOps_nil ?_
   refine G_ret ?_
   refine ⟨_, [], rfl, rfl, ?_, rfl⟩
   rw [fpT, fpAt_some hf, isPv_some hf]; rfl
  ·refine G_skip ?_
   refine G_region' (L := [0, 1, 2]) rfl ?_
   refine xmv ?_
   refine x_pure rfl rfl rfl (by first | exact l_add rfl rfl rfl | exact L_bin rfl rfl rfl rfl) ?_
   refine xas ?_
   refine EOps_nil ?_
   refine ⟨k + 1, ?_, ?_, rfl, ⟨.inr rfl, trivial⟩, ⟨.inr rfl, .inr rfl, .inr rfl, trivial⟩⟩
   ·first | omega | (dsimp only; omega) | (simp; omega)
   ·exact ⟨by omega, ne_step hne hp (by simpa using hc21)⟩
 ·have hk' : c.piv.length ≤ k := by simpa [pairs_len] using hc11
  rw [List.take_of_length_le hk'] at hne
  have hf := fpv_none hne
  refine G_exit ?_
  refine G_seq ?_
  refine G_region' (L := [0, 1]) rfl ?_
  refine xas ?_
  refine xas ?_
  refine EOps_nil ?_
  refine G_ret ?_
  refine ⟨_, [], rfl, rfl, ?_, rfl⟩
  rw [fpT, fpAt_none hf, isPv_none hf]; rfl

set_option maxRecDepth 20000 in
set_option maxHeartbeats 2000000 in
theorem c_impl_isPivot (c : Crk) (v : Int) (hb : c.piv.length ≤ 1048576) : EFn Tryz.prog 69 [.agg (crkC c), .c (.sc (.int .i64 v))] [] (fun r S => r = .c (.sc (.bool (isPv c.piv v))) ∧ S = []) := by
 refine E_fn Tryz.func69 rfl (Nat.le_of_ble_eq_true rfl) ?_
 refine E_seq ?_
 refine E_region' (L := [0, 1]) rfl ?_
 refine x_box rfl rfl rfl rfl rfl ?_
 refine xas ?_
 refine EOps_nil ?_
 refine E_seq ?_
 refine e_tidy [0, 1, 2, 4] ?_
 refine E_region' (L := [0, 1, 2, 3, 4, 5, 6, 7]) rfl ?_
 refine x_light rfl rfl rfl (L_load rfl (by first | exact d_bp ty_29 | exact ld_rp ty_29 rfl | exact d_ep ty_29)) ?_
 refine xmv ?_
 refine x_call rfl rfl rfl rfl rfl ca_59 (c_impl_FindPivot c v hb) ?_
 rintro r S ⟨rfl, rfl⟩
 refine xmv ?_
 refine x_pure rfl rfl rfl (L_extract rfl rfl) ?_
 refine x_pure rfl rfl rfl (L_extract rfl rfl) ?_
 refine xas ?_
 refine xas ?_
 refine EOps_nil ?_
 refine E_seq ?_
 refine E_region' (L := [0, 1]) rfl ?_
 refine xmv ?_
 refine xas ?_
 refine EOps_nil ?_
 refine E_ret ?_
 exact ⟨_, [], rfl, rfl, rfl, rfl⟩

set_option maxRecDepth 20000 in
set_option maxHeartbeats 2000000 in
theorem c_impl_piece (c : Crk) (v : Int) (hb : c.piv.length ≤ 1048576 ∧ c.vals.length ≤ 1048576) : EFn Tryz.prog 70 [.agg (crkC c), .c (.sc (.int .i64 v))] [] (fun r S => r = pcT c v ∧ S = []) := by
 refine E_fn Tryz.func70 rfl (Nat.le_of_ble_eq_true rfl) ?_
 refine E_G (n := 0) rfl ?_
 refine G_seq ?_
 refine G_region' (L := [0, 1, 2]) rfl ?_
 refine x_box rfl rfl rfl rfl rfl ?_
 refine xas ?_
 refine xas ?_
 refine EOps_nil ?_
 refine G_seq ?_
 refine G_drawT mixed ?_
 refine t_old 0 rfl rfl rfl (l_field rfl fo_29_0) ?_
 refine t_light 1 rfl rfl rfl (L_load rfl (by first | exact d_bp ty_22 | exact ld_rp ty_22 rfl | exact d_ep ty_22)) ?_
 refine t_old 2 rfl rfl rfl (l_len rfl sl_22) ?_
 refine t_old 3 rfl rfl rfl (L_assign rfl) ?_
 refine t_old 4 rfl rfl rfl (L_assign rfl) ?_
 refine T_done (by kernel_rfl) ?_
 refine G_seq ?_
 refine G_seq ?_
 refine G_region' (L := [0, 1, 2, 3]) rfl ?_
 refine x_pure rfl rfl rfl (l_field rfl fo_29_2) ?_
 refine x_light rfl rfl rfl (L_load rfl (by first | exact d_bp ty_27 | exact ld_rp ty_27 rfl | exact d_ep ty_27)) ?_
 refine x_pure rfl rfl rfl (l_len rfl sl_27) ?_
 refine xmv ?_
 refine EOps_nil ?_
 refine G_block ?_
 refine g_forD (α := Nat) [0, 1, 2, 7, 14, 15] (fun k => [(16, .c (.sc (.int .i64 (k)))), (6, .c (.sc (.int .i64 ((aOf c.piv k)))))]) (fun _ => _) (fun k => k ≤ c.piv.length ∧ ∀ q ∈ c.piv.take k, q.1 < v) (fun k => c.piv.length - k) (0) ?_ (rfl) ⟨.inr rfl, .inr rfl, trivial⟩ ?_
 ·simp
 rintro k ⟨hk, hne⟩
 refine G_seq ?_
 refine G_region' (L := [0]) rfl ?_
 refine x_pure rfl rfl rfl (L_bin rfl rfl rfl rfl) ?_
 refine EOps_nil ?_
 refine G_seq ?_
 refine G_cond rfl (fun hc17 => ?_) (fun hc17 => ?_)
 ·have hk1 : k < c.piv.length := by simpa [pairs_len] using hc17
  obtain ⟨p, hp⟩ := at_lt hk1
  refine G_skip ?_
  refine G_seq ?_
  refine G_block ?_
  refine G_seq ?_
  refine G_region' (L := [0, 1, 2, 3]) rfl ?_
  refine x_pure rfl rfl rfl (L_index rfl rfl (by first | exact i_ro sl_27 ty_76 | exact i_sl sl_27 ty_76)) ?_
  refine x_light rfl rfl rfl (L_load rfl (by first | exact d_bp ty_76 | exact ld_rp ty_76 rfl | exact d_ep ty_76)) ?_
  refine x_alloc rfl rfl rfl rfl za_76 ?_
  refine EOps_go rfl rfl (EOp_store rfl rfl rfl (by first | exact s_bp ty_76 | exact s_ep ty_76) ?_)
  refine EOps_nil ?_
  refine G_seq ?_
  refine G_seq ?_
  refine G_region' (L := [0, 1, 2, 3]) rfl ?_
  refine x_pure rfl rfl rfl (l_field rfl fo_76_0) ?_
  refine x_light rfl rfl rfl (L_load rfl (by first | exact d_bp ty_3 | exact ld_rp ty_3 rfl | exact d_ep ty_3)) ?_
  refine xmv ?_
  refine x_pure rfl rfl rfl (L_bin rfl rfl rfl rfl) ?_
  refine EOps_nil ?_
  refine G_cond rfl (fun hc23 => ?_) (fun hc23 => ?_)
  ·refine G_region' (L := [0, 1, 2]) rfl ?_
   refine x_pure rfl rfl rfl (l_field rfl fo_76_1) ?_
   refine x_light rfl rfl rfl (L_load rfl (by first | exact d_bp ty_3 | exact ld_rp ty_3 rfl | exact d_ep ty_3)) ?_
   refine xas ?_
   refine EOps_nil ?_
   refine G_seq ?_
   refine G_region' (L := [0, 1, 2, 3]) rfl ?_
   refine x_pure rfl rfl rfl (l_field rfl fo_76_0) ?_
   refine x_light rfl rfl rfl (L_load rfl (by first | exact d_bp ty_3 | exact ld_rp ty_3 rfl | exact d_ep ty_3)) ?_
   refine xmv ?_
   refine x_pure rfl rfl rfl (L_bin rfl rfl rfl rfl) ?_
   refine EOps_nil ?_
   refine G_cond rfl (fun hc29 => ?_) (fun hc29 => ?_)
   ·have hge : v ≤ p.1 := by simpa using hc29
    have hg := geIx_at hne hp hge
    have hto : pcTo c.piv c.vals.length v = p.2 := by rw [pcTo, hg, zOf_at hp]
    have hfr : pcFrom c.piv v = if p.1 = v then p.2 else aOf c.piv k := by rw [pcFrom, hg, getD_of hp]; simp [hk1]
    refine G_seq ?_
    refine G_drawT mixed ?_
    refine t_old 0 rfl rfl rfl (L_move rfl) ?_
    refine t_old 1 rfl rfl rfl (l_field rfl fo_76_1) ?_
    refine t_light 2 rfl rfl rfl (L_load rfl (by first | exact d_bp ty_3 | exact ld_rp ty_3 rfl | exact d_ep ty_3)) ?_
    refine t_old 3 rfl rfl rfl (L_assign rfl) ?_
    refine t_old 4 rfl rfl rfl (L_assign rfl) ?_
    refine T_done (by kernel_rfl) ?_
    refine G_ret ?_
    refine ⟨_, [], rfl, rfl, ?_, rfl⟩
    have hle : p.1 ≤ v := by simpa using hc23
    rw [pcT, hto, hfr, if_pos (by omega)]; rfl
   ·have hlt : p.1 < v := by simpa using hc29
    refine G_skip ?_
    refine G_region' (L := [0, 1]) rfl ?_
    refine x_pure rfl rfl rfl (by first | exact l_add rfl rfl rfl | exact L_bin rfl rfl rfl rfl) ?_
    refine xmv ?_
    refine EOps_nil ?_
    refine ⟨[0], rfl, k + 1, ?_, ?_, rfl, ⟨.inr rfl, .inr (int_eq (by first | exact (aOf_step hp).symm | (exfalso; omega))), trivial⟩, ⟨.inr rfl, .inr rfl, .inr rfl, .inr rfl, .inr rfl, .inr rfl, trivial⟩⟩
    ·first | omega | (dsimp only; omega) | (simp; omega)
    ·exact ⟨by omega, lt_step hne hp hlt⟩
  ·have hgt : ¬ p.1 ≤ v := by simpa using hc23
   refine G_skip ?_
   refine G_seq ?_
   refine G_region' (L := [0, 1, 2, 3]) rfl ?_
   refine x_pure rfl rfl rfl (l_field rfl fo_76_0) ?_
   refine x_light rfl rfl rfl (L_load rfl (by first | exact d_bp ty_3 | exact ld_rp ty_3 rfl | exact d_ep ty_3)) ?_
   refine xmv ?_
   refine x_pure rfl rfl rfl (L_bin rfl rfl rfl rfl) ?_
   refine EOps_nil ?_
   refine G_cond rfl (fun hc29 => ?_) (fun hc29 => ?_)
   ·have hge : v ≤ p.1 := by simpa using hc29
    have hg := geIx_at hne hp hge
    have hto : pcTo c.piv c.vals.length v = p.2 := by rw [pcTo, hg, zOf_at hp]
    have hfr : pcFrom c.piv v = if p.1 = v then p.2 else aOf c.piv k := by rw [pcFrom, hg, getD_of hp]; simp [hk1]
    refine G_seq ?_
    refine G_drawT mixed ?_
    refine t_old 0 rfl rfl rfl (L_move rfl) ?_
    refine t_old 1 rfl rfl rfl (l_field rfl fo_76_1) ?_
    refine t_light 2 rfl rfl rfl (L_load rfl (by first | exact d_bp ty_3 | exact ld_rp ty_3 rfl | exact d_ep ty_3)) ?_
    refine t_old 3 rfl rfl rfl (L_assign rfl) ?_
    refine t_old 4 rfl rfl rfl (L_assign rfl) ?_
    refine T_done (by kernel_rfl) ?_
    refine G_ret ?_
    refine ⟨_, [], rfl, rfl, ?_, rfl⟩
    have hgt : ¬ p.1 ≤ v := by simpa using hc23
    rw [pcT, hto, hfr, if_neg (by omega)]; rfl
   ·have hlt : p.1 < v := by simpa using hc29
    refine G_skip ?_
    refine G_region' (L := [0, 1]) rfl ?_
    refine x_pure rfl rfl rfl (by first | exact l_add rfl rfl rfl | exact L_bin rfl rfl rfl rfl) ?_
    refine xmv ?_
    refine EOps_nil ?_
    refine ⟨[0], rfl, k + 1, ?_, ?_, rfl, ⟨.inr rfl, .inr (int_eq (by first | exact (aOf_step hp).symm | (exfalso; omega))), trivial⟩, ⟨.inr rfl, .inr rfl, .inr rfl, .inr rfl, .inr rfl, .inr rfl, trivial⟩⟩
    ·first | omega | (dsimp only; omega) | (simp; omega)
    ·exact ⟨by omega, lt_step hne hp hlt⟩
 ·have hk0 : c.piv.length ≤ k := by simpa [pairs_len] using hc17
  have hk' : k = c.piv.length := by omega
  rw [List.take_of_length_le (by omega)] at hne
  have hg := geIx_none hne
  refine G_exit ?_
  refine G_seq ?_
  refine G_region' (L := [0, 1, 2, 3]) rfl ?_
  refine xmv ?_
  refine xmv ?_
  refine xas ?_
  refine xas ?_
  refine EOps_nil ?_
  refine G_ret ?_
  refine ⟨_, [], rfl, rfl, ?_, rfl⟩
  rw [pcT, pcTo, pcFrom, hg, zOf_end, if_neg (by omega), hk', ← ints_len c.vals]; rfl

end Go.Proofs.YthnadkagchbhbaaGreat.E
