/- Walks through functions, by program out of the session's annotations. -/
import Derived.Test.YthnadkagchbhbaaGreatA54
import Derived.Test.YthnadkagchbhbaaGreatF4
namespace Go.Proofs.YthnadkagchbhbaaGreat.E
open Go Go.RowKit Go.Proofs
set_option linter.unusedVariables false
set_option linter.unusedSimpArgs false

theorem medI_at {l : List Int} (h : 0 < l.length) : (sortI l)[(l.length - 1) / 2]? = some (medI l) := by
 have hl := sortI_len l
 unfold medI
 rw [getD_at (by omega)]
 exact List.getElem?_eq_getElem (by omega)

set_option maxRecDepth 20000 in
set_option maxHeartbeats 2000000 in
theorem c_spec_MedianOf (l : List Int) (h0 : 0 < l.length) (h64 : l.length ≤ 64) : EFn Tryz.prog 77 [.c (.ro (ints l))] [] (fun r S => r = .c (.sc (.int .i64 (medI l))) ∧ S = []) := by
 refine E_fn Tryz.func77 rfl (Nat.le_of_ble_eq_true rfl) ?_
 have hil := ints_len l
 have hx := medI_at h0
 have hsl := sortI_len l
 refine E_seq ?_
 refine E_region' (L := [0]) rfl ?_
 refine xas ?_
 refine EOps_nil ?_
 refine E_seq ?_
 refine E_seq ?_
 refine E_region' (L := [0, 1, 2, 3, 4, 5, 6, 7]) rfl ?_
 refine xmv ?_
 refine x_pure rfl rfl rfl (l_len rfl sl_22) ?_
 refine x_pure rfl rfl rfl (L_bin rfl rfl rfl rfl) ?_
 refine xmv ?_
 refine EOps_split 6 (b := _) rfl (fun hg6 => ?_) (fun hg6 => ?_)
 ·refine x_skip rfl rfl rfl ?_
  refine x_skip rfl rfl rfl ?_
  refine x_skip rfl rfl rfl ?_
  refine x_pure rfl rfl rfl (L_pick rfl rfl) ?_
  refine EOps_nil ?_
  refine E_cond rfl (fun hc10 => ?_) (fun hc10 => ?_)
  ·exfalso; first | (exact absurd (show l.length = 0 by simpa [ints_len] using hg6) (by omega)) | (simp [ints_len] at hc10; omega)
  ·exact Bool.noConfusion (hc10 : true = false)
 ·refine xmv ?_
  refine x_pure rfl rfl rfl (l_len rfl sl_22) ?_
  refine x_pure rfl rfl rfl (L_bin rfl rfl rfl rfl) ?_
  refine x_pure rfl rfl rfl (L_pick rfl rfl) ?_
  refine EOps_nil ?_
  refine E_cond rfl (fun hc10 => ?_) (fun hc10 => ?_)
  ·exfalso; first | (exact absurd (show l.length = 0 by simpa [ints_len] using hg6) (by omega)) | (simp [ints_len] at hc10; omega)
  ·refine E_skip ?_
   refine E_seq ?_
   refine E_region' (L := [0, 1, 2, 3, 4, 5, 6, 7, 8]) rfl ?_
   refine xmv ?_
   refine x_call rfl rfl rfl rfl rfl ca_52 (c_spec_SortInts l (by omega)) ?_
   rintro r S ⟨rfl, rfl⟩
   refine xmv ?_
   refine x_pure rfl rfl rfl (l_len rfl sl_22) ?_
   refine x_pure rfl rfl rfl (by first | exact l_sub rfl rfl rfl | exact L_bin rfl rfl rfl rfl) ?_
   refine x_pure rfl rfl rfl (L_half (l.length - 1) rfl rfl rfl (by rw [ints_len]; omega) (by omega)) ?_
   refine x_pure rfl rfl rfl (L_index rfl rfl (by first | exact i_ro sl_22 ty_3 | exact i_sl sl_22 ty_3)) ?_
   refine x_light rfl rfl rfl (L_load rfl (by first | exact d_bp ty_3 | exact ld_rp ty_3 rfl | exact d_ep ty_3)) ?_
   refine xas ?_
   refine EOps_nil ?_
   refine E_ret ?_
   exact ⟨_, [], rfl, rfl, rfl, rfl⟩

set_option maxRecDepth 20000 in
set_option maxHeartbeats 2000000 in
theorem c_impl_MedianOf (l : List Int) (h0 : 0 < l.length) (h64 : l.length ≤ 64) : EFn Tryz.prog 85 [.c (.ro (ints l))] [] (fun r S => r = .c (.sc (.int .i64 (medI l))) ∧ S = []) := by
 refine E_fn Tryz.func85 rfl (Nat.le_of_ble_eq_true rfl) ?_
 have hil := ints_len l
 have hx := medI_at h0
 have hsl := sortI_len l
 refine E_seq ?_
 refine E_region' (L := [0]) rfl ?_
 refine xas ?_
 refine EOps_nil ?_
 refine E_seq ?_
 refine E_seq ?_
 refine E_region' (L := [0, 1, 2, 3, 4, 5, 6, 7]) rfl ?_
 refine xmv ?_
 refine x_pure rfl rfl rfl (l_len rfl sl_22) ?_
 refine x_pure rfl rfl rfl (L_bin rfl rfl rfl rfl) ?_
 refine xmv ?_
 refine EOps_split 6 (b := _) rfl (fun hg6 => ?_) (fun hg6 => ?_)
 ·refine x_skip rfl rfl rfl ?_
  refine x_skip rfl rfl rfl ?_
  refine x_skip rfl rfl rfl ?_
  refine x_pure rfl rfl rfl (L_pick rfl rfl) ?_
  refine EOps_nil ?_
  refine E_cond rfl (fun hc10 => ?_) (fun hc10 => ?_)
  ·exfalso; first | (exact absurd (show l.length = 0 by simpa [ints_len] using hg6) (by omega)) | (simp [ints_len] at hc10; omega)
  ·exact Bool.noConfusion (hc10 : true = false)
 ·refine xmv ?_
  refine x_pure rfl rfl rfl (l_len rfl sl_22) ?_
  refine x_pure rfl rfl rfl (L_bin rfl rfl rfl rfl) ?_
  refine x_pure rfl rfl rfl (L_pick rfl rfl) ?_
  refine EOps_nil ?_
  refine E_cond rfl (fun hc10 => ?_) (fun hc10 => ?_)
  ·exfalso; first | (exact absurd (show l.length = 0 by simpa [ints_len] using hg6) (by omega)) | (simp [ints_len] at hc10; omega)
  ·refine E_skip ?_
   refine E_seq ?_
   refine E_region' (L := [0, 1, 2, 3, 4, 5, 6, 7, 8]) rfl ?_
   refine xmv ?_
   refine x_call rfl rfl rfl rfl rfl ca_74 (c_impl_SortInts l (by omega)) ?_
   rintro r S ⟨rfl, rfl⟩
   refine xmv ?_
   refine x_pure rfl rfl rfl (l_len rfl sl_22) ?_
   refine x_pure rfl rfl rfl (by first | exact l_sub rfl rfl rfl | exact L_bin rfl rfl rfl rfl) ?_
   refine x_pure rfl rfl rfl (L_half (l.length - 1) rfl rfl rfl (by rw [ints_len]; omega) (by omega)) ?_
   refine x_pure rfl rfl rfl (L_index rfl rfl (by first | exact i_ro sl_22 ty_3 | exact i_sl sl_22 ty_3)) ?_
   refine x_light rfl rfl rfl (L_load rfl (by first | exact d_bp ty_3 | exact ld_rp ty_3 rfl | exact d_ep ty_3)) ?_
   refine xas ?_
   refine EOps_nil ?_
   refine E_ret ?_
   exact ⟨_, [], rfl, rfl, rfl, rfl⟩

end Go.Proofs.YthnadkagchbhbaaGreat.E
