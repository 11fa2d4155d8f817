/- Walks through functions, by program out of the session's annotations. -/
import Derived.Test.YthlhmpknngidmaaA203
import Derived.Test.YthlhmpknngidmaaF4
namespace Go.Proofs.Ythlhmpknngidmaa.E
open Go Go.RowKit Go.Proofs
set_option linter.unusedVariables false
set_option linter.unusedSimpArgs false

set_option maxRecDepth 20000 in
set_option maxHeartbeats 2000000 in
theorem c_slices_Equal___bool_bool_ (xs ys : List Bool) : EFn Try.prog 59 [.c (.ro (bools xs)), .c (.ro (bools ys))] [] (fun r S => r = .c (.sc (.bool (decide (xs = ys)))) ∧ S = []) := by
  refine E_fn Try.func59 rfl (Nat.le_of_ble_eq_true rfl) ?_
  refine E_bound (t := 0) (rows := bools xs) rfl fun hb => ?_
  rw [bools_len] at hb
  refine E_seq ?_
  refine E_region' (L := [0]) rfl ?_
  refine x_pure rfl rfl rfl (L_assign rfl) ?_
  refine EOps_nil ?_
  refine E_seq ?_
  refine E_seq ?_
  refine E_region' (L := [0, 1, 2, 3, 4]) rfl ?_
  refine x_pure rfl rfl rfl (L_move rfl) ?_
  refine x_pure rfl rfl rfl (l_len rfl sl_29) ?_
  refine x_pure rfl rfl rfl (L_move rfl) ?_
  refine x_pure rfl rfl rfl (l_len rfl sl_29) ?_
  refine x_pure rfl rfl rfl (L_bin rfl rfl rfl rfl) ?_
  refine EOps_nil ?_
  refine E_cond rfl (fun hc10 => ?_) (fun hc10 => ?_)
  · have hne : xs ≠ ys := fun e => by subst e; simp at hc10
    refine E_seq ?_
    refine E_region' (L := [0]) rfl ?_
    refine x_pure rfl rfl rfl (L_assign rfl) ?_
    refine EOps_nil ?_
    refine E_ret ?_
    refine ⟨_, [], rfl, rfl, ?_, rfl⟩
    simp [AV.ren, ren_sc, ren_ro, AC.ren, AC.ren.rens, ix, rv1, E.get, E.ev, E.cv, E.fill', E.fill, E.slotsOf, hne]
  · have hlen : xs.length = ys.length := by simp [bools_len] at hc10; omega
    refine E_skip ?_
    refine E_seq ?_
    refine E_seq ?_
    refine E_region' (L := [0, 1, 2]) rfl ?_
    refine x_pure rfl rfl rfl (L_move rfl) ?_
    refine x_pure rfl rfl rfl (l_len rfl sl_29) ?_
    refine x_pure rfl rfl rfl (L_move rfl) ?_
    refine EOps_nil ?_
    refine E_block ?_
    refine e_for (α := Nat) [0, 1, 10, 12] (fun k => [(13, .c (.sc (.int .i64 (k)))), (5, .any)]) (fun _ => _) (fun k => k ≤ xs.length ∧ xs.take k = ys.take k) (fun k => xs.length - k) (0) ?_ (rfl) ⟨.inr rfl, .inl rfl, trivial⟩ ?_
    · simp
    rintro k ⟨hk, htk⟩
    refine E_seq ?_
    refine E_region' (L := [0]) rfl ?_
    refine x_pure rfl rfl rfl (L_bin rfl rfl rfl rfl) ?_
    refine EOps_nil ?_
    refine E_seq ?_
    refine E_cond rfl (fun hc14 => ?_) (fun hc14 => ?_)
    · have hc14' : k < (xs).length := by simpa [ints_len, bools_len, pairs_len, quads_len, quints_len] using hc14
      obtain ⟨x, hx⟩ : ∃ x, (xs)[k]? = some x := ⟨_, List.getElem?_eq_getElem hc14'⟩
      obtain ⟨y, hy⟩ : ∃ y, ys[k]? = some y := ⟨_, List.getElem?_eq_getElem (hlen ▸ hc14')⟩
      refine E_skip ?_
      refine E_seq ?_
      refine E_block ?_
      refine E_seq ?_
      refine E_region' (L := [0, 1]) rfl ?_
      refine x_pure rfl rfl rfl (L_move rfl) ?_
      refine x_pure rfl rfl rfl (L_assign rfl) ?_
      refine EOps_nil ?_
      refine E_seq ?_
      refine E_drawT mixed ?_
      refine t_old 0 rfl rfl rfl (L_move rfl) ?_
      refine t_old 1 rfl rfl rfl (L_move rfl) ?_
      refine t_old 2 rfl rfl rfl (L_index rfl rfl (by first | exact i_ro sl_29 ty_4 | exact i_sl sl_29 ty_4)) ?_
      refine t_light 3 rfl rfl rfl (L_load rfl (by first | exact d_bp ty_4 | exact ld_rp ty_4 rfl | exact d_ep ty_4)) ?_
      refine t_old 4 rfl rfl rfl (L_move rfl) ?_
      refine t_old 5 rfl rfl rfl (L_move rfl) ?_
      refine t_old 6 rfl rfl rfl (L_index rfl rfl (by first | exact i_ro sl_29 ty_4 | exact i_sl sl_29 ty_4)) ?_
      refine t_light 7 rfl rfl rfl (L_load rfl (by first | exact d_bp ty_4 | exact ld_rp ty_4 rfl | exact d_ep ty_4)) ?_
      refine t_old 8 rfl rfl rfl (L_binB rfl bo_4 rfl rfl rfl) ?_
      refine T_done (by kernel_rfl) ?_
      refine E_cond rfl (fun hc24 => ?_) (fun hc24 => ?_)
      · have hne : xs ≠ ys := fun e => by subst e; rw [hx] at hy; cases hy; simp at hc24
        refine E_seq ?_
        refine E_region' (L := [0]) rfl ?_
        refine x_pure rfl rfl rfl (L_assign rfl) ?_
        refine EOps_nil ?_
        refine E_ret ?_
        refine ⟨_, [], rfl, rfl, ?_, rfl⟩
        simp [AV.ren, ren_sc, ren_ro, AC.ren, AC.ren.rens, ix, rv1, E.get, E.ev, E.cv, E.fill', E.fill, E.slotsOf, hne]
      · have hxy : x = y := by simpa using hc24
        refine E_skip ?_
        refine E_region' (L := [0, 1]) rfl ?_
        refine x_pure rfl rfl rfl (by first | exact l_add rfl rfl rfl | exact L_bin rfl rfl rfl rfl) ?_
        refine x_pure rfl rfl rfl (L_move rfl) ?_
        refine EOps_nil ?_
        refine ⟨k + 1, ?_, ?_, rfl, ⟨.inr rfl, .inl rfl, trivial⟩, ⟨.inr rfl, .inr rfl, .inr rfl, .inr rfl, trivial⟩⟩
        · first | omega | (dsimp only; omega) | (simp; omega)
        · exact ⟨by omega, by rw [List.take_add_one, List.take_add_one, htk, hx, hy, hxy]⟩
    · have hk' : xs.length ≤ k := by simpa [bools_len] using hc14
      have heq : xs = ys := by rw [List.take_of_length_le hk', List.take_of_length_le (by omega)] at htk; exact htk
      refine E_exit ?_
      refine E_seq ?_
      refine E_region' (L := [0]) rfl ?_
      refine x_pure rfl rfl rfl (L_assign rfl) ?_
      refine EOps_nil ?_
      refine E_ret ?_
      refine ⟨_, [], rfl, rfl, ?_, rfl⟩
      simp [AV.ren, ren_sc, ren_ro, AC.ren, AC.ren.rens, ix, rv1, E.get, E.ev, E.cv, E.fill', E.fill, E.slotsOf, heq]

set_option maxRecDepth 20000 in
set_option maxHeartbeats 4000000 in
theorem c_slices_EqualFunc_____int_____int___int___int_ (xs ys : List (List Int)) : EFn Try.prog 45 [.c (.ro (nest xs)), .c (.ro (nest ys)), .c (.fn 46 [])] [] (fun r S => r = .c (.sc (.bool (decide (xs = ys)))) ∧ S = []) := by
  refine E_fn Try.func45 rfl (Nat.le_of_ble_eq_true rfl) ?_
  refine E_G (n := 0) rfl ?_
  refine (X_bound 0 rfl).G fun hb => ?_
  have hb := hb.down
  rw [nest_len] at hb
  have hlx := nest_len xs
  have hly := nest_len ys
  refine G_seq ?_
  refine G_region' (L := [0]) rfl ?_
  refine x_pure rfl rfl rfl (L_assign rfl) ?_
  refine EOps_nil ?_
  refine G_seq ?_
  refine G_seq ?_
  refine G_region' (L := [0, 1, 2, 3, 4]) rfl ?_
  refine x_pure rfl rfl rfl (L_move rfl) ?_
  refine x_pure rfl rfl rfl (l_len rfl sl_22) ?_
  refine x_pure rfl rfl rfl (L_move rfl) ?_
  refine x_pure rfl rfl rfl (l_len rfl sl_22) ?_
  refine x_pure rfl rfl rfl (L_bin rfl rfl rfl rfl) ?_
  refine EOps_nil ?_
  refine G_cond rfl (fun hc14 => ?_) (fun hc14 => ?_)
  · have hne : xs ≠ ys := fun e => by subst e; simp at hc14
    refine G_seq ?_
    refine G_region' (L := [0]) rfl ?_
    refine x_pure rfl rfl rfl (L_assign rfl) ?_
    refine EOps_nil ?_
    refine G_ret ?_
    refine ⟨_, [], rfl, rfl, bool_eq ?_, rfl⟩
    simp [hne]
  · have hlen : xs.length = ys.length := by simp [nest_len] at hc14; omega
    refine G_skip ?_
    refine G_seq ?_
    refine G_seq ?_
    refine G_region' (L := [0, 1, 2]) rfl ?_
    refine x_pure rfl rfl rfl (L_move rfl) ?_
    refine x_pure rfl rfl rfl (l_len rfl sl_22) ?_
    refine x_pure rfl rfl rfl (L_move rfl) ?_
    refine EOps_nil ?_
    refine G_block ?_
    refine g_forD (α := Nat) [0, 1, 2, 14, 15, 16] (fun k => [(17, .c (.sc (.int .i64 (k)))), (7, .any), (8, .any), (9, .any)]) (fun k => []) (fun k => k ≤ xs.length ∧ xs.take k = ys.take k) (fun k => xs.length - k) (0) ?_ (rfl) ⟨.inr rfl, .inl rfl, .inl rfl, .inl rfl, trivial⟩ ?_
    · simp
    rintro k ⟨hk, htk⟩
    refine G_seq ?_
    refine G_region' (L := [0]) rfl ?_
    refine x_pure rfl rfl rfl (L_bin rfl rfl rfl rfl) ?_
    refine EOps_nil ?_
    refine G_seq ?_
    refine G_cond rfl (fun hc18 => ?_) (fun hc18 => ?_)
    · have hc18' : k < xs.length := by simpa [nest_len] using hc18
      obtain ⟨x, hx⟩ := at_lt hc18'
      obtain ⟨y, hy⟩ : ∃ y, ys[k]? = some y := ⟨_, List.getElem?_eq_getElem (hlen ▸ hc18')⟩
      have hnx := nest_get hx
      have hny := nest_get hy
      refine G_skip ?_
      refine G_seq ?_
      refine G_block ?_
      refine G_seq ?_
      refine G_region' (L := [0, 1, 2, 3, 4]) rfl ?_
      refine x_pure rfl rfl rfl (L_move rfl) ?_
      refine x_pure rfl rfl rfl (L_index rfl rfl (by first | exact i_ro sl_22 ty_27 | exact i_sl sl_22 ty_27)) ?_
      refine x_light rfl rfl rfl (L_load rfl (by first | exact d_bp ty_27 | exact ld_rp ty_27 rfl | exact d_ep ty_27)) ?_
      refine x_pure rfl rfl rfl (L_assign rfl) ?_
      refine x_pure rfl rfl rfl (L_assign rfl) ?_
      refine EOps_nil ?_
      refine G_seq ?_
      refine G_region' (L := [0, 1, 2, 3, 4]) rfl ?_
      refine x_pure rfl rfl rfl (L_move rfl) ?_
      refine x_pure rfl rfl rfl (L_move rfl) ?_
      refine x_pure rfl rfl rfl (L_index rfl rfl (by first | exact i_ro sl_22 ty_27 | exact i_sl sl_22 ty_27)) ?_
      refine x_light rfl rfl rfl (L_load rfl (by first | exact d_bp ty_27 | exact ld_rp ty_27 rfl | exact d_ep ty_27)) ?_
      refine x_pure rfl rfl rfl (L_assign rfl) ?_
      refine EOps_nil ?_
      refine G_seq ?_
      refine g_tidy [0, 1, 2, 6, 7, 8, 9, 14, 15, 16, 17, 18, 30] ?_
      refine G_region' (L := [0, 1, 2, 3, 4]) rfl ?_
      refine x_pure rfl rfl rfl (L_move rfl) ?_
      refine x_pure rfl rfl rfl (L_move rfl) ?_
      refine x_pure rfl rfl rfl (L_move rfl) ?_
      refine x_call rfl rfl rfl rfl rfl ca_46 (c_slices_Equal___int_int_ x y) ?_
      rintro r S ⟨rfl, rfl⟩
      refine x_pure rfl rfl rfl (L_not rfl rfl) ?_
      refine EOps_nil ?_
      refine G_cond rfl (fun hc30 => ?_) (fun hc30 => ?_)
      · have hne : xs ≠ ys := fun e => by subst e; rw [hx] at hy; cases hy; simp at hc30
        refine G_seq ?_
        refine G_region' (L := [0]) rfl ?_
        refine x_pure rfl rfl rfl (L_assign rfl) ?_
        refine EOps_nil ?_
        refine G_ret ?_
        refine ⟨_, [], rfl, rfl, bool_eq ?_, rfl⟩
        simp [hne]
      · have hxy : x = y := by simpa using hc30
        refine G_skip ?_
        refine G_region' (L := [0, 1]) rfl ?_
        refine x_pure rfl rfl rfl (by first | exact l_add rfl rfl rfl | exact L_bin rfl rfl rfl rfl) ?_
        refine x_pure rfl rfl rfl (L_move rfl) ?_
        refine EOps_nil ?_
        refine ⟨[], rfl, k + 1, ?_, ?_, rfl, ⟨.inr rfl, .inl rfl, .inl rfl, .inl rfl, trivial⟩, ⟨.inr rfl, .inr rfl, .inr rfl, .inr rfl, .inr rfl, .inr rfl, trivial⟩⟩
        · first | omega | (dsimp only; omega) | (simp; omega)
        · exact ⟨by omega, by rw [List.take_add_one, List.take_add_one, htk, hx, hy, hxy]⟩
    · have hk' : xs.length ≤ k := by simpa [nest_len] using hc18
      have heq : xs = ys := by rw [List.take_of_length_le hk', List.take_of_length_le (by omega)] at htk; exact htk
      refine G_exit ?_
      refine G_seq ?_
      refine G_region' (L := [0]) rfl ?_
      refine x_pure rfl rfl rfl (L_assign rfl) ?_
      refine EOps_nil ?_
      refine G_ret ?_
      refine ⟨_, [], rfl, rfl, bool_eq ?_, rfl⟩
      simp [heq]

set_option maxRecDepth 20000 in
set_option maxHeartbeats 4000000 in
theorem c_slices_EqualFunc___impl_Map___impl_Map_impl_Map_impl_Map_ (xs ys : List (Mp)) : EFn Try.prog 57 [.c (.ro (mps xs)), .c (.ro (mps ys)), .c (.fn 58 [])] [] (fun r S => r = .c (.sc (.bool (decide (xs = ys)))) ∧ S = []) := by
  refine E_fn Try.func57 rfl (Nat.le_of_ble_eq_true rfl) ?_
  refine E_G (n := 0) rfl ?_
  refine (X_bound 0 rfl).G fun hb => ?_
  have hb := hb.down
  rw [mps_len] at hb
  have hlx := mps_len xs
  have hly := mps_len ys
  refine G_seq ?_
  refine G_region' (L := [0]) rfl ?_
  refine x_pure rfl rfl rfl (L_assign rfl) ?_
  refine EOps_nil ?_
  refine G_seq ?_
  refine G_seq ?_
  refine G_region' (L := [0, 1, 2, 3, 4]) rfl ?_
  refine x_pure rfl rfl rfl (L_move rfl) ?_
  refine x_pure rfl rfl rfl (l_len rfl sl_34) ?_
  refine x_pure rfl rfl rfl (L_move rfl) ?_
  refine x_pure rfl rfl rfl (l_len rfl sl_34) ?_
  refine x_pure rfl rfl rfl (L_bin rfl rfl rfl rfl) ?_
  refine EOps_nil ?_
  refine G_cond rfl (fun hc14 => ?_) (fun hc14 => ?_)
  · have hne : xs ≠ ys := fun e => by subst e; simp at hc14
    refine G_seq ?_
    refine G_region' (L := [0]) rfl ?_
    refine x_pure rfl rfl rfl (L_assign rfl) ?_
    refine EOps_nil ?_
    refine G_ret ?_
    refine ⟨_, [], rfl, rfl, bool_eq ?_, rfl⟩
    simp [hne]
  · have hlen : xs.length = ys.length := by simp [mps_len] at hc14; omega
    refine G_skip ?_
    refine G_seq ?_
    refine G_seq ?_
    refine G_region' (L := [0, 1, 2]) rfl ?_
    refine x_pure rfl rfl rfl (L_move rfl) ?_
    refine x_pure rfl rfl rfl (l_len rfl sl_34) ?_
    refine x_pure rfl rfl rfl (L_move rfl) ?_
    refine EOps_nil ?_
    refine G_block ?_
    refine g_forD (α := Nat) [0, 1, 2, 14, 15, 16] (fun k => [(17, .c (.sc (.int .i64 (k)))), (7, .any), (8, .any), (9, .any)]) (fun k => []) (fun k => k ≤ xs.length ∧ xs.take k = ys.take k) (fun k => xs.length - k) (0) ?_ (rfl) ⟨.inr rfl, .inl rfl, .inl rfl, .inl rfl, trivial⟩ ?_
    · simp
    rintro k ⟨hk, htk⟩
    refine G_seq ?_
    refine G_region' (L := [0]) rfl ?_
    refine x_pure rfl rfl rfl (L_bin rfl rfl rfl rfl) ?_
    refine EOps_nil ?_
    refine G_seq ?_
    refine G_cond rfl (fun hc18 => ?_) (fun hc18 => ?_)
    · have hc18' : k < xs.length := by simpa [mps_len] using hc18
      obtain ⟨x, hx⟩ := at_lt hc18'
      obtain ⟨y, hy⟩ : ∃ y, ys[k]? = some y := ⟨_, List.getElem?_eq_getElem (hlen ▸ hc18')⟩
      have hnx := mps_get hx
      have hny := mps_get hy
      refine G_skip ?_
      refine G_seq ?_
      refine G_block ?_
      refine G_seq ?_
      refine G_region' (L := [0, 1, 2, 3, 4, 5]) rfl ?_
      refine x_pure rfl rfl rfl (L_move rfl) ?_
      refine x_pure rfl rfl rfl (L_index rfl rfl (by first | exact i_ro sl_34 ty_74 | exact i_sl sl_34 ty_74)) ?_
      refine x_light rfl rfl rfl (L_load rfl (by first | exact d_bp ty_74 | exact ld_rp ty_74 rfl | exact d_ep ty_74)) ?_
      refine x_alloc rfl rfl rfl rfl za_74 ?_
      refine x_pure rfl rfl rfl (L_assign rfl) ?_
      refine EOps_go rfl rfl (EOp_store rfl rfl rfl (by first | exact s_bp ty_74 | exact s_ep ty_74) ?_)
      refine EOps_nil ?_
      refine G_seq ?_
      refine G_region' (L := [0, 1, 2, 3, 4, 5]) rfl ?_
      refine x_pure rfl rfl rfl (L_move rfl) ?_
      refine x_pure rfl rfl rfl (L_move rfl) ?_
      refine x_pure rfl rfl rfl (L_index rfl rfl (by first | exact i_ro sl_34 ty_74 | exact i_sl sl_34 ty_74)) ?_
      refine x_light rfl rfl rfl (L_load rfl (by first | exact d_bp ty_74 | exact ld_rp ty_74 rfl | exact d_ep ty_74)) ?_
      refine x_alloc rfl rfl rfl rfl za_74 ?_
      refine EOps_go rfl rfl (EOp_store rfl rfl rfl (by first | exact s_bp ty_74 | exact s_ep ty_74) ?_)
      refine EOps_nil ?_
      refine G_seq ?_
      refine g_tidy [0, 1, 2, 6, 7, 8, 9, 14, 15, 16, 17, 18, 30] ?_
      refine G_region' (L := [0, 1, 2, 3, 4]) rfl ?_
      refine x_pure rfl rfl rfl (L_move rfl) ?_
      refine x_light rfl rfl rfl (L_load rfl (by first | exact d_bp ty_74 | exact ld_rp ty_74 rfl | exact d_ep ty_74)) ?_
      refine x_light rfl rfl rfl (L_load rfl (by first | exact d_bp ty_74 | exact ld_rp ty_74 rfl | exact d_ep ty_74)) ?_
      refine x_call rfl rfl rfl rfl rfl ca_58 (c_impl_EqualMaps x y) ?_
      rintro r S ⟨rfl, rfl⟩
      refine x_pure rfl rfl rfl (L_not rfl rfl) ?_
      refine EOps_nil ?_
      refine G_cond rfl (fun hc30 => ?_) (fun hc30 => ?_)
      · have hne : xs ≠ ys := fun e => by subst e; rw [hx] at hy; cases hy; simp at hc30
        refine G_seq ?_
        refine G_region' (L := [0]) rfl ?_
        refine x_pure rfl rfl rfl (L_assign rfl) ?_
        refine EOps_nil ?_
        refine G_ret ?_
        refine ⟨_, [], rfl, rfl, bool_eq ?_, rfl⟩
        simp [hne]
      · have hxy : x = y := by simpa using hc30
        refine G_skip ?_
        refine G_region' (L := [0, 1]) rfl ?_
        refine x_pure rfl rfl rfl (by first | exact l_add rfl rfl rfl | exact L_bin rfl rfl rfl rfl) ?_
        refine x_pure rfl rfl rfl (L_move rfl) ?_
        refine EOps_nil ?_
        refine ⟨[], rfl, k + 1, ?_, ?_, rfl, ⟨.inr rfl, .inl rfl, .inl rfl, .inl rfl, trivial⟩, ⟨.inr rfl, .inr rfl, .inr rfl, .inr rfl, .inr rfl, .inr rfl, trivial⟩⟩
        · first | omega | (dsimp only; omega) | (simp; omega)
        · exact ⟨by omega, by rw [List.take_add_one, List.take_add_one, htk, hx, hy, hxy]⟩
    · have hk' : xs.length ≤ k := by simpa [mps_len] using hc18
      have heq : xs = ys := by rw [List.take_of_length_le hk', List.take_of_length_le (by omega)] at htk; exact htk
      refine G_exit ?_
      refine G_seq ?_
      refine G_region' (L := [0]) rfl ?_
      refine x_pure rfl rfl rfl (L_assign rfl) ?_
      refine EOps_nil ?_
      refine G_ret ?_
      refine ⟨_, [], rfl, rfl, bool_eq ?_, rfl⟩
      simp [heq]

set_option maxRecDepth 20000 in
set_option maxHeartbeats 2000000 in
theorem c_spec_l13Lists (xs ys : List (List Int)) : EFn Try.prog 44 [.c (.ro (nest xs)), .c (.ro (nest ys))] [] (fun r S => r = .c (.sc (.bool (decide (xs = ys)))) ∧ S = []) := by
  refine E_fn Try.func44 rfl (Nat.le_of_ble_eq_true rfl) ?_
  refine E_bound (t := 0) (rows := nest xs) rfl fun hb => ?_
  rw [nest_len] at hb
  refine E_seq ?_
  refine E_region' (L := [0]) rfl ?_
  refine x_pure rfl rfl rfl (L_assign rfl) ?_
  refine EOps_nil ?_
  refine E_seq ?_
  refine E_seq ?_
  refine E_region' (L := [0, 1, 2, 3, 4]) rfl ?_
  refine x_pure rfl rfl rfl (L_move rfl) ?_
  refine x_pure rfl rfl rfl (l_len rfl sl_22) ?_
  refine x_pure rfl rfl rfl (L_move rfl) ?_
  refine x_pure rfl rfl rfl (l_len rfl sl_22) ?_
  refine x_pure rfl rfl rfl (L_bin rfl rfl rfl rfl) ?_
  refine EOps_nil ?_
  refine E_cond rfl (fun hc10 => ?_) (fun hc10 => ?_)
  · have hne : xs ≠ ys := fun e => by subst e; simp at hc10
    refine E_seq ?_
    refine E_region' (L := [0]) rfl ?_
    refine x_pure rfl rfl rfl (L_assign rfl) ?_
    refine EOps_nil ?_
    refine E_ret ?_
    refine ⟨_, [], rfl, rfl, ?_, rfl⟩
    simp [AV.ren, ren_sc, ren_ro, AC.ren, AC.ren.rens, ix, rv1, E.get, E.ev, E.cv, E.fill', E.fill, E.slotsOf, hne]
  · have hlen : xs.length = ys.length := by simp [nest_len] at hc10; omega
    refine E_skip ?_
    refine E_seq ?_
    refine E_seq ?_
    refine E_region' (L := [0]) rfl ?_
    refine x_pure rfl rfl rfl (L_assign rfl) ?_
    refine EOps_nil ?_
    refine E_block ?_
    refine e_for (α := Nat) [0, 1, 10] (fun k => [(5, .c (.sc (.int .i64 (k))))]) (fun _ => _) (fun k => k ≤ xs.length ∧ xs.take k = ys.take k) (fun k => xs.length - k) (0) ?_ (rfl) ⟨.inr rfl, trivial⟩ ?_
    · simp
    rintro k ⟨hk, htk⟩
    refine E_seq ?_
    refine E_seq ?_
    refine E_region' (L := [0, 1, 2, 3]) rfl ?_
    refine x_pure rfl rfl rfl (L_move rfl) ?_
    refine x_pure rfl rfl rfl (L_move rfl) ?_
    refine x_pure rfl rfl rfl (l_len rfl sl_22) ?_
    refine x_pure rfl rfl rfl (L_bin rfl rfl rfl rfl) ?_
    refine EOps_nil ?_
    refine E_cond rfl (fun hc14 => ?_) (fun hc14 => ?_)
    · have hc14' : k < xs.length := by simpa [nest_len] using hc14
      obtain ⟨x, hx⟩ := at_lt hc14'
      obtain ⟨y, hy⟩ : ∃ y, ys[k]? = some y := ⟨_, List.getElem?_eq_getElem (hlen ▸ hc14')⟩
      have hnx := nest_get hx
      have hny := nest_get hy
      refine E_skip ?_
      refine E_seq ?_
      refine E_block ?_
      refine E_seq ?_
      refine E_drawT mixed ?_
      refine t_old 0 rfl rfl rfl (L_move rfl) ?_
      refine t_old 1 rfl rfl rfl (L_move rfl) ?_
      refine t_old 2 rfl rfl rfl (L_index rfl rfl (by first | exact i_ro sl_22 ty_27 | exact i_sl sl_22 ty_27)) ?_
      refine t_light 3 rfl rfl rfl (L_load rfl (by first | exact d_bp ty_27 | exact ld_rp ty_27 rfl | exact d_ep ty_27)) ?_
      refine t_old 4 rfl rfl rfl (L_move rfl) ?_
      refine t_old 5 rfl rfl rfl (L_move rfl) ?_
      refine t_old 6 rfl rfl rfl (L_index rfl rfl (by first | exact i_ro sl_22 ty_27 | exact i_sl sl_22 ty_27)) ?_
      refine t_light 7 rfl rfl rfl (L_load rfl (by first | exact d_bp ty_27 | exact ld_rp ty_27 rfl | exact d_ep ty_27)) ?_
      refine t_call 8 rfl rfl rfl rfl rfl ca_55 (c_spec_l4Ints x y) ?_
      rintro r S ⟨rfl, rfl⟩
      refine t_old 9 rfl rfl rfl (L_not rfl rfl) ?_
      refine T_done (by kernel_rfl) ?_
      refine E_cond rfl (fun hc26 => ?_) (fun hc26 => ?_)
      · have hne : xs ≠ ys := fun e => by subst e; rw [hx] at hy; cases hy; simp at hc26
        refine E_seq ?_
        refine E_region' (L := [0]) rfl ?_
        refine x_pure rfl rfl rfl (L_assign rfl) ?_
        refine EOps_nil ?_
        refine E_ret ?_
        refine ⟨_, [], rfl, rfl, ?_, rfl⟩
        simp [AV.ren, ren_sc, ren_ro, AC.ren, AC.ren.rens, ix, rv1, E.get, E.ev, E.cv, E.fill', E.fill, E.slotsOf, hne]
      · have hxy : x = y := by simpa using hc26
        refine E_skip ?_
        refine E_region' (L := [0, 1, 2]) rfl ?_
        refine x_pure rfl rfl rfl (L_move rfl) ?_
        refine x_pure rfl rfl rfl (by first | exact l_add rfl rfl rfl | exact L_bin rfl rfl rfl rfl) ?_
        refine x_pure rfl rfl rfl (L_assign rfl) ?_
        refine EOps_nil ?_
        refine ⟨k + 1, ?_, ?_, rfl, ⟨.inr rfl, trivial⟩, ⟨.inr rfl, .inr rfl, .inr rfl, trivial⟩⟩
        · first | omega | (dsimp only; omega) | (simp; omega)
        · exact ⟨by omega, by rw [List.take_add_one, List.take_add_one, htk, hx, hy, hxy]⟩
    · have hk' : xs.length ≤ k := by simpa [nest_len] using hc14
      have heq : xs = ys := by rw [List.take_of_length_le hk', List.take_of_length_le (by omega)] at htk; exact htk
      refine E_exit ?_
      refine E_seq ?_
      refine E_region' (L := [0]) rfl ?_
      refine x_pure rfl rfl rfl (L_assign rfl) ?_
      refine EOps_nil ?_
      refine E_ret ?_
      refine ⟨_, [], rfl, rfl, ?_, rfl⟩
      simp [AV.ren, ren_sc, ren_ro, AC.ren, AC.ren.rens, ix, rv1, E.get, E.ev, E.cv, E.fill', E.fill, E.slotsOf, heq]

set_option maxRecDepth 20000 in
set_option maxHeartbeats 8000000 in
theorem c_impl_EqualMapSets (a b : MSt) : EFn Try.prog 28 [.agg (msC a), .agg (msC b)] [] (fun r S => r = .c (.sc (.bool (decide (a = b)))) ∧ S = []) := by
  refine E_fn Try.func28 rfl (Nat.le_of_ble_eq_true rfl) ?_
  obtain ⟨a0, a1, a2, a3, a4, a5, a6, a7⟩ := a
  obtain ⟨b0, b1, b2, b3, b4, b5, b6, b7⟩ := b
  refine E_seq ?_
  refine E_region' (L := [0, 1, 2]) rfl ?_
  refine x_box rfl rfl rfl rfl rfl ?_
  refine x_box rfl rfl rfl rfl rfl ?_
  refine x_pure rfl rfl rfl (L_assign rfl) ?_
  refine EOps_nil ?_
  refine E_seq ?_
  refine e_tidy [0, 1, 2, 3, 4] ?_
  refine E_region' (L := [0, 1, 2, 3, 4, 5, 6, 7, 8, 9, 10, 11, 12, 13, 14, 15, 16, 17, 18, 19, 20, 21, 22, 23, 24, 25, 26, 27, 28, 29, 30, 31, 32, 33, 34, 35, 36, 37, 38, 39, 40, 41, 42, 43, 44, 45, 46, 47, 48, 49, 50, 51, 52, 53, 54]) rfl ?_
  refine x_pure rfl rfl rfl (l_field rfl fo_36_0) ?_
  refine x_light rfl rfl rfl (L_load rfl (by first | exact d_bp ty_27 | exact ld_rp ty_27 rfl | exact d_ep ty_27)) ?_
  refine x_pure rfl rfl rfl (l_field rfl fo_36_0) ?_
  refine x_light rfl rfl rfl (L_load rfl (by first | exact d_bp ty_27 | exact ld_rp ty_27 rfl | exact d_ep ty_27)) ?_
  refine x_call rfl rfl rfl rfl rfl ca_46 (c_slices_Equal___int_int_ a0 b0) ?_
  rintro r S ⟨rfl, rfl⟩
  refine x_pure rfl rfl rfl (L_move rfl) ?_
  refine EOps_split 10 (b := _) rfl (fun hg10 => ?_) (fun hg10 => ?_)
  · refine x_pure rfl rfl rfl (l_field rfl fo_36_1) ?_
    refine x_light rfl rfl rfl (L_load rfl (by first | exact d_bp ty_22 | exact ld_rp ty_22 rfl | exact d_ep ty_22)) ?_
    refine x_pure rfl rfl rfl (l_field rfl fo_36_1) ?_
    refine x_light rfl rfl rfl (L_load rfl (by first | exact d_bp ty_22 | exact ld_rp ty_22 rfl | exact d_ep ty_22)) ?_
    refine x_call rfl rfl rfl rfl rfl ca_45 (c_slices_EqualFunc_____int_____int___int___int_ a1 b1) ?_
    rintro r S ⟨rfl, rfl⟩
    refine x_pure rfl rfl rfl (L_pick rfl rfl) ?_
    refine x_pure rfl rfl rfl (L_move rfl) ?_
    refine EOps_split 17 (b := _) rfl (fun hg17 => ?_) (fun hg17 => ?_)
    · refine x_pure rfl rfl rfl (l_field rfl fo_36_2) ?_
      refine x_light rfl rfl rfl (L_load rfl (by first | exact d_bp ty_27 | exact ld_rp ty_27 rfl | exact d_ep ty_27)) ?_
      refine x_pure rfl rfl rfl (l_field rfl fo_36_2) ?_
      refine x_light rfl rfl rfl (L_load rfl (by first | exact d_bp ty_27 | exact ld_rp ty_27 rfl | exact d_ep ty_27)) ?_
      refine x_call rfl rfl rfl rfl rfl ca_46 (c_slices_Equal___int_int_ a2 b2) ?_
      rintro r S ⟨rfl, rfl⟩
      refine x_pure rfl rfl rfl (L_pick rfl rfl) ?_
      refine x_pure rfl rfl rfl (L_move rfl) ?_
      refine EOps_split 24 (b := _) rfl (fun hg24 => ?_) (fun hg24 => ?_)
      · refine x_pure rfl rfl rfl (l_field rfl fo_36_3) ?_
        refine x_light rfl rfl rfl (L_load rfl (by first | exact d_bp ty_34 | exact ld_rp ty_34 rfl | exact d_ep ty_34)) ?_
        refine x_pure rfl rfl rfl (l_field rfl fo_36_3) ?_
        refine x_light rfl rfl rfl (L_load rfl (by first | exact d_bp ty_34 | exact ld_rp ty_34 rfl | exact d_ep ty_34)) ?_
        refine x_call rfl rfl rfl rfl rfl ca_57 (c_slices_EqualFunc___impl_Map___impl_Map_impl_Map_impl_Map_ a3 b3) ?_
        rintro r S ⟨rfl, rfl⟩
        refine x_pure rfl rfl rfl (L_pick rfl rfl) ?_
        refine x_pure rfl rfl rfl (L_move rfl) ?_
        refine EOps_split 31 (b := _) rfl (fun hg31 => ?_) (fun hg31 => ?_)
        · refine x_pure rfl rfl rfl (l_field rfl fo_36_4) ?_
          refine x_light rfl rfl rfl (L_load rfl (by first | exact d_bp ty_29 | exact ld_rp ty_29 rfl | exact d_ep ty_29)) ?_
          refine x_pure rfl rfl rfl (l_field rfl fo_36_4) ?_
          refine x_light rfl rfl rfl (L_load rfl (by first | exact d_bp ty_29 | exact ld_rp ty_29 rfl | exact d_ep ty_29)) ?_
          refine x_call rfl rfl rfl rfl rfl ca_59 (c_slices_Equal___bool_bool_ a4 b4) ?_
          rintro r S ⟨rfl, rfl⟩
          refine x_pure rfl rfl rfl (L_pick rfl rfl) ?_
          refine x_pure rfl rfl rfl (L_move rfl) ?_
          refine EOps_split 38 (b := _) rfl (fun hg38 => ?_) (fun hg38 => ?_)
          · refine x_pure rfl rfl rfl (l_field rfl fo_36_5) ?_
            refine x_light rfl rfl rfl (L_load rfl (by first | exact d_bp ty_27 | exact ld_rp ty_27 rfl | exact d_ep ty_27)) ?_
            refine x_pure rfl rfl rfl (l_field rfl fo_36_5) ?_
            refine x_light rfl rfl rfl (L_load rfl (by first | exact d_bp ty_27 | exact ld_rp ty_27 rfl | exact d_ep ty_27)) ?_
            refine x_call rfl rfl rfl rfl rfl ca_46 (c_slices_Equal___int_int_ a5 b5) ?_
            rintro r S ⟨rfl, rfl⟩
            refine x_pure rfl rfl rfl (L_pick rfl rfl) ?_
            refine x_pure rfl rfl rfl (L_move rfl) ?_
            refine EOps_split 45 (b := _) rfl (fun hg45 => ?_) (fun hg45 => ?_)
            · refine x_pure rfl rfl rfl (l_field rfl fo_36_6) ?_
              refine x_light rfl rfl rfl (L_load rfl (by first | exact d_bp ty_3 | exact ld_rp ty_3 rfl | exact d_ep ty_3)) ?_
              refine x_pure rfl rfl rfl (l_field rfl fo_36_6) ?_
              refine x_light rfl rfl rfl (L_load rfl (by first | exact d_bp ty_3 | exact ld_rp ty_3 rfl | exact d_ep ty_3)) ?_
              refine x_pure rfl rfl rfl (L_bin rfl rfl rfl rfl) ?_
              refine x_pure rfl rfl rfl (L_pick rfl rfl) ?_
              refine x_pure rfl rfl rfl (L_move rfl) ?_
              refine EOps_split 52 (b := _) rfl (fun hg52 => ?_) (fun hg52 => ?_)
              · refine x_pure rfl rfl rfl (l_field rfl fo_36_7) ?_
                refine x_light rfl rfl rfl (L_load rfl (by first | exact d_bp ty_3 | exact ld_rp ty_3 rfl | exact d_ep ty_3)) ?_
                refine x_pure rfl rfl rfl (l_field rfl fo_36_7) ?_
                refine x_light rfl rfl rfl (L_load rfl (by first | exact d_bp ty_3 | exact ld_rp ty_3 rfl | exact d_ep ty_3)) ?_
                refine x_pure rfl rfl rfl (L_bin rfl rfl rfl rfl) ?_
                refine x_pure rfl rfl rfl (L_pick rfl rfl) ?_
                refine x_pure rfl rfl rfl (L_assign rfl) ?_
                refine EOps_nil ?_
                refine E_ret ?_
                refine ⟨_, [], rfl, rfl, bool_eq ?_, rfl⟩
                simp_all
              · refine x_skip rfl rfl rfl ?_
                refine x_skip rfl rfl rfl ?_
                refine x_skip rfl rfl rfl ?_
                refine x_skip rfl rfl rfl ?_
                refine x_skip rfl rfl rfl ?_
                refine x_pure rfl rfl rfl (L_pick rfl rfl) ?_
                refine x_pure rfl rfl rfl (L_assign rfl) ?_
                refine EOps_nil ?_
                refine E_ret ?_
                refine ⟨_, [], rfl, rfl, bool_eq ?_, rfl⟩
                simp_all
            · refine x_skip rfl rfl rfl ?_
              refine x_skip rfl rfl rfl ?_
              refine x_skip rfl rfl rfl ?_
              refine x_skip rfl rfl rfl ?_
              refine x_skip rfl rfl rfl ?_
              refine x_pure rfl rfl rfl (L_pick rfl rfl) ?_
              refine x_pure rfl rfl rfl (L_move rfl) ?_
              refine x_skip rfl rfl rfl ?_
              refine x_skip rfl rfl rfl ?_
              refine x_skip rfl rfl rfl ?_
              refine x_skip rfl rfl rfl ?_
              refine x_skip rfl rfl rfl ?_
              refine x_pure rfl rfl rfl (L_pick rfl rfl) ?_
              refine x_pure rfl rfl rfl (L_assign rfl) ?_
              refine EOps_nil ?_
              refine E_ret ?_
              refine ⟨_, [], rfl, rfl, bool_eq ?_, rfl⟩
              simp_all
          · refine x_skip rfl rfl rfl ?_
            refine x_skip rfl rfl rfl ?_
            refine x_skip rfl rfl rfl ?_
            refine x_skip rfl rfl rfl ?_
            refine x_skip rfl rfl rfl ?_
            refine x_pure rfl rfl rfl (L_pick rfl rfl) ?_
            refine x_pure rfl rfl rfl (L_move rfl) ?_
            refine x_skip rfl rfl rfl ?_
            refine x_skip rfl rfl rfl ?_
            refine x_skip rfl rfl rfl ?_
            refine x_skip rfl rfl rfl ?_
            refine x_skip rfl rfl rfl ?_
            refine x_pure rfl rfl rfl (L_pick rfl rfl) ?_
            refine x_pure rfl rfl rfl (L_move rfl) ?_
            refine x_skip rfl rfl rfl ?_
            refine x_skip rfl rfl rfl ?_
            refine x_skip rfl rfl rfl ?_
            refine x_skip rfl rfl rfl ?_
            refine x_skip rfl rfl rfl ?_
            refine x_pure rfl rfl rfl (L_pick rfl rfl) ?_
            refine x_pure rfl rfl rfl (L_assign rfl) ?_
            refine EOps_nil ?_
            refine E_ret ?_
            refine ⟨_, [], rfl, rfl, bool_eq ?_, rfl⟩
            simp_all
        · refine x_skip rfl rfl rfl ?_
          refine x_skip rfl rfl rfl ?_
          refine x_skip rfl rfl rfl ?_
          refine x_skip rfl rfl rfl ?_
          refine x_skip rfl rfl rfl ?_
          refine x_pure rfl rfl rfl (L_pick rfl rfl) ?_
          refine x_pure rfl rfl rfl (L_move rfl) ?_
          refine x_skip rfl rfl rfl ?_
          refine x_skip rfl rfl rfl ?_
          refine x_skip rfl rfl rfl ?_
          refine x_skip rfl rfl rfl ?_
          refine x_skip rfl rfl rfl ?_
          refine x_pure rfl rfl rfl (L_pick rfl rfl) ?_
          refine x_pure rfl rfl rfl (L_move rfl) ?_
          refine x_skip rfl rfl rfl ?_
          refine x_skip rfl rfl rfl ?_
          refine x_skip rfl rfl rfl ?_
          refine x_skip rfl rfl rfl ?_
          refine x_skip rfl rfl rfl ?_
          refine x_pure rfl rfl rfl (L_pick rfl rfl) ?_
          refine x_pure rfl rfl rfl (L_move rfl) ?_
          refine x_skip rfl rfl rfl ?_
          refine x_skip rfl rfl rfl ?_
          refine x_skip rfl rfl rfl ?_
          refine x_skip rfl rfl rfl ?_
          refine x_skip rfl rfl rfl ?_
          refine x_pure rfl rfl rfl (L_pick rfl rfl) ?_
          refine x_pure rfl rfl rfl (L_assign rfl) ?_
          refine EOps_nil ?_
          refine E_ret ?_
          refine ⟨_, [], rfl, rfl, bool_eq ?_, rfl⟩
          simp_all
      · refine x_skip rfl rfl rfl ?_
        refine x_skip rfl rfl rfl ?_
        refine x_skip rfl rfl rfl ?_
        refine x_skip rfl rfl rfl ?_
        refine x_skip rfl rfl rfl ?_
        refine x_pure rfl rfl rfl (L_pick rfl rfl) ?_
        refine x_pure rfl rfl rfl (L_move rfl) ?_
        refine x_skip rfl rfl rfl ?_
        refine x_skip rfl rfl rfl ?_
        refine x_skip rfl rfl rfl ?_
        refine x_skip rfl rfl rfl ?_
        refine x_skip rfl rfl rfl ?_
        refine x_pure rfl rfl rfl (L_pick rfl rfl) ?_
        refine x_pure rfl rfl rfl (L_move rfl) ?_
        refine x_skip rfl rfl rfl ?_
        refine x_skip rfl rfl rfl ?_
        refine x_skip rfl rfl rfl ?_
        refine x_skip rfl rfl rfl ?_
        refine x_skip rfl rfl rfl ?_
        refine x_pure rfl rfl rfl (L_pick rfl rfl) ?_
        refine x_pure rfl rfl rfl (L_move rfl) ?_
        refine x_skip rfl rfl rfl ?_
        refine x_skip rfl rfl rfl ?_
        refine x_skip rfl rfl rfl ?_
        refine x_skip rfl rfl rfl ?_
        refine x_skip rfl rfl rfl ?_
        refine x_pure rfl rfl rfl (L_pick rfl rfl) ?_
        refine x_pure rfl rfl rfl (L_move rfl) ?_
        refine x_skip rfl rfl rfl ?_
        refine x_skip rfl rfl rfl ?_
        refine x_skip rfl rfl rfl ?_
        refine x_skip rfl rfl rfl ?_
        refine x_skip rfl rfl rfl ?_
        refine x_pure rfl rfl rfl (L_pick rfl rfl) ?_
        refine x_pure rfl rfl rfl (L_assign rfl) ?_
        refine EOps_nil ?_
        refine E_ret ?_
        refine ⟨_, [], rfl, rfl, bool_eq ?_, rfl⟩
        simp_all
    · refine x_skip rfl rfl rfl ?_
      refine x_skip rfl rfl rfl ?_
      refine x_skip rfl rfl rfl ?_
      refine x_skip rfl rfl rfl ?_
      refine x_skip rfl rfl rfl ?_
      refine x_pure rfl rfl rfl (L_pick rfl rfl) ?_
      refine x_pure rfl rfl rfl (L_move rfl) ?_
      refine x_skip rfl rfl rfl ?_
      refine x_skip rfl rfl rfl ?_
      refine x_skip rfl rfl rfl ?_
      refine x_skip rfl rfl rfl ?_
      refine x_skip rfl rfl rfl ?_
      refine x_pure rfl rfl rfl (L_pick rfl rfl) ?_
      refine x_pure rfl rfl rfl (L_move rfl) ?_
      refine x_skip rfl rfl rfl ?_
      refine x_skip rfl rfl rfl ?_
      refine x_skip rfl rfl rfl ?_
      refine x_skip rfl rfl rfl ?_
      refine x_skip rfl rfl rfl ?_
      refine x_pure rfl rfl rfl (L_pick rfl rfl) ?_
      refine x_pure rfl rfl rfl (L_move rfl) ?_
      refine x_skip rfl rfl rfl ?_
      refine x_skip rfl rfl rfl ?_
      refine x_skip rfl rfl rfl ?_
      refine x_skip rfl rfl rfl ?_
      refine x_skip rfl rfl rfl ?_
      refine x_pure rfl rfl rfl (L_pick rfl rfl) ?_
      refine x_pure rfl rfl rfl (L_move rfl) ?_
      refine x_skip rfl rfl rfl ?_
      refine x_skip rfl rfl rfl ?_
      refine x_skip rfl rfl rfl ?_
      refine x_skip rfl rfl rfl ?_
      refine x_skip rfl rfl rfl ?_
      refine x_pure rfl rfl rfl (L_pick rfl rfl) ?_
      refine x_pure rfl rfl rfl (L_move rfl) ?_
      refine x_skip rfl rfl rfl ?_
      refine x_skip rfl rfl rfl ?_
      refine x_skip rfl rfl rfl ?_
      refine x_skip rfl rfl rfl ?_
      refine x_skip rfl rfl rfl ?_
      refine x_pure rfl rfl rfl (L_pick rfl rfl) ?_
      refine x_pure rfl rfl rfl (L_assign rfl) ?_
      refine EOps_nil ?_
      refine E_ret ?_
      refine ⟨_, [], rfl, rfl, bool_eq ?_, rfl⟩
      simp_all
  · refine x_skip rfl rfl rfl ?_
    refine x_skip rfl rfl rfl ?_
    refine x_skip rfl rfl rfl ?_
    refine x_skip rfl rfl rfl ?_
    refine x_skip rfl rfl rfl ?_
    refine x_pure rfl rfl rfl (L_pick rfl rfl) ?_
    refine x_pure rfl rfl rfl (L_move rfl) ?_
    refine x_skip rfl rfl rfl ?_
    refine x_skip rfl rfl rfl ?_
    refine x_skip rfl rfl rfl ?_
    refine x_skip rfl rfl rfl ?_
    refine x_skip rfl rfl rfl ?_
    refine x_pure rfl rfl rfl (L_pick rfl rfl) ?_
    refine x_pure rfl rfl rfl (L_move rfl) ?_
    refine x_skip rfl rfl rfl ?_
    refine x_skip rfl rfl rfl ?_
    refine x_skip rfl rfl rfl ?_
    refine x_skip rfl rfl rfl ?_
    refine x_skip rfl rfl rfl ?_
    refine x_pure rfl rfl rfl (L_pick rfl rfl) ?_
    refine x_pure rfl rfl rfl (L_move rfl) ?_
    refine x_skip rfl rfl rfl ?_
    refine x_skip rfl rfl rfl ?_
    refine x_skip rfl rfl rfl ?_
    refine x_skip rfl rfl rfl ?_
    refine x_skip rfl rfl rfl ?_
    refine x_pure rfl rfl rfl (L_pick rfl rfl) ?_
    refine x_pure rfl rfl rfl (L_move rfl) ?_
    refine x_skip rfl rfl rfl ?_
    refine x_skip rfl rfl rfl ?_
    refine x_skip rfl rfl rfl ?_
    refine x_skip rfl rfl rfl ?_
    refine x_skip rfl rfl rfl ?_
    refine x_pure rfl rfl rfl (L_pick rfl rfl) ?_
    refine x_pure rfl rfl rfl (L_move rfl) ?_
    refine x_skip rfl rfl rfl ?_
    refine x_skip rfl rfl rfl ?_
    refine x_skip rfl rfl rfl ?_
    refine x_skip rfl rfl rfl ?_
    refine x_skip rfl rfl rfl ?_
    refine x_pure rfl rfl rfl (L_pick rfl rfl) ?_
    refine x_pure rfl rfl rfl (L_move rfl) ?_
    refine x_skip rfl rfl rfl ?_
    refine x_skip rfl rfl rfl ?_
    refine x_skip rfl rfl rfl ?_
    refine x_skip rfl rfl rfl ?_
    refine x_skip rfl rfl rfl ?_
    refine x_pure rfl rfl rfl (L_pick rfl rfl) ?_
    refine x_pure rfl rfl rfl (L_assign rfl) ?_
    refine EOps_nil ?_
    refine E_ret ?_
    refine ⟨_, [], rfl, rfl, bool_eq ?_, rfl⟩
    simp_all

set_option maxRecDepth 20000 in
set_option maxHeartbeats 8000000 in
theorem c_spec_EqualMapSets (a b : MSt) : EFn Try.prog 27 [.agg (msC a), .agg (msC b)] [] (fun r S => r = .c (.sc (.bool (decide (a = b)))) ∧ S = []) := by
  refine E_fn Try.func27 rfl (Nat.le_of_ble_eq_true rfl) ?_
  obtain ⟨a0, a1, a2, a3, a4, a5, a6, a7⟩ := a
  obtain ⟨b0, b1, b2, b3, b4, b5, b6, b7⟩ := b
  have hla := mps_len a3
  have hlb := mps_len b3
  have hba := bools_len a4
  have hbb := bools_len b4
  refine E_seq ?_
  refine E_region' (L := [0, 1, 2]) rfl ?_
  refine x_box rfl rfl rfl rfl rfl ?_
  refine x_box rfl rfl rfl rfl rfl ?_
  refine x_pure rfl rfl rfl (L_assign rfl) ?_
  refine EOps_nil ?_
  refine E_seq ?_
  refine E_seq ?_
  refine e_tidy [0, 1, 2, 3, 4] ?_
  refine E_region' (L := [0, 1, 2, 3, 4, 5, 6, 7, 8, 9, 10, 11, 12, 13, 14, 15, 16, 17, 18, 19, 20, 21, 22, 23, 24, 25, 26, 27, 28, 29, 30, 31, 32, 33, 34, 35, 36, 37, 38, 39, 40, 41, 42, 43, 44, 45, 46, 47, 48, 49, 50, 51, 52, 53, 54, 55, 56, 57, 58, 59, 60, 61]) rfl ?_
  refine x_pure rfl rfl rfl (l_field rfl fo_36_0) ?_
  refine x_light rfl rfl rfl (L_load rfl (by first | exact d_bp ty_27 | exact ld_rp ty_27 rfl | exact d_ep ty_27)) ?_
  refine x_pure rfl rfl rfl (l_field rfl fo_36_0) ?_
  refine x_light rfl rfl rfl (L_load rfl (by first | exact d_bp ty_27 | exact ld_rp ty_27 rfl | exact d_ep ty_27)) ?_
  refine x_call rfl rfl rfl rfl rfl ca_55 (c_spec_l4Ints a0 b0) ?_
  rintro r S ⟨rfl, rfl⟩
  refine x_pure rfl rfl rfl (L_not rfl rfl) ?_
  refine x_pure rfl rfl rfl (L_move rfl) ?_
  refine EOps_split 13 (b := _) rfl (fun hg13 => ?_) (fun hg13 => ?_)
  · refine x_skip rfl rfl rfl ?_
    refine x_skip rfl rfl rfl ?_
    refine x_skip rfl rfl rfl ?_
    refine x_skip rfl rfl rfl ?_
    refine x_skip rfl rfl rfl ?_
    refine x_skip rfl rfl rfl ?_
    refine x_pure rfl rfl rfl (L_pick rfl rfl) ?_
    refine x_pure rfl rfl rfl (L_move rfl) ?_
    refine x_skip rfl rfl rfl ?_
    refine x_skip rfl rfl rfl ?_
    refine x_skip rfl rfl rfl ?_
    refine x_skip rfl rfl rfl ?_
    refine x_skip rfl rfl rfl ?_
    refine x_skip rfl rfl rfl ?_
    refine x_pure rfl rfl rfl (L_pick rfl rfl) ?_
    refine x_pure rfl rfl rfl (L_move rfl) ?_
    refine x_skip rfl rfl rfl ?_
    refine x_skip rfl rfl rfl ?_
    refine x_skip rfl rfl rfl ?_
    refine x_skip rfl rfl rfl ?_
    refine x_skip rfl rfl rfl ?_
    refine x_skip rfl rfl rfl ?_
    refine x_skip rfl rfl rfl ?_
    refine x_pure rfl rfl rfl (L_pick rfl rfl) ?_
    refine x_pure rfl rfl rfl (L_move rfl) ?_
    refine x_skip rfl rfl rfl ?_
    refine x_skip rfl rfl rfl ?_
    refine x_skip rfl rfl rfl ?_
    refine x_skip rfl rfl rfl ?_
    refine x_skip rfl rfl rfl ?_
    refine x_skip rfl rfl rfl ?_
    refine x_skip rfl rfl rfl ?_
    refine x_pure rfl rfl rfl (L_pick rfl rfl) ?_
    refine x_pure rfl rfl rfl (L_move rfl) ?_
    refine x_skip rfl rfl rfl ?_
    refine x_skip rfl rfl rfl ?_
    refine x_skip rfl rfl rfl ?_
    refine x_skip rfl rfl rfl ?_
    refine x_skip rfl rfl rfl ?_
    refine x_skip rfl rfl rfl ?_
    refine x_pure rfl rfl rfl (L_pick rfl rfl) ?_
    refine x_pure rfl rfl rfl (L_move rfl) ?_
    refine x_skip rfl rfl rfl ?_
    refine x_skip rfl rfl rfl ?_
    refine x_skip rfl rfl rfl ?_
    refine x_skip rfl rfl rfl ?_
    refine x_skip rfl rfl rfl ?_
    refine x_pure rfl rfl rfl (L_pick rfl rfl) ?_
    refine x_pure rfl rfl rfl (L_move rfl) ?_
    refine x_skip rfl rfl rfl ?_
    refine x_skip rfl rfl rfl ?_
    refine x_skip rfl rfl rfl ?_
    refine x_skip rfl rfl rfl ?_
    refine x_skip rfl rfl rfl ?_
    refine x_pure rfl rfl rfl (L_pick rfl rfl) ?_
    refine EOps_nil ?_
    refine E_cond rfl (fun hc68 => ?_) (fun hc68 => ?_)
    · have hne : ¬ ((⟨a0, a1, a2, a3, a4, a5, a6, a7⟩ : MSt) = ⟨b0, b1, b2, b3, b4, b5, b6, b7⟩) := by
        rintro ⟨⟩
        simp_all
      refine E_seq ?_
      refine E_region' (L := [0]) rfl ?_
      refine x_pure rfl rfl rfl (L_assign rfl) ?_
      refine EOps_nil ?_
      refine E_ret ?_
      refine ⟨_, [], rfl, rfl, bool_eq ?_, rfl⟩
      first
        | (simp only [hne, decide_false]; done)
        | (simp [hne]; done)
        | (simp [he3, he4]; done)
    · exact Bool.noConfusion (hc68 : true = false)
  · refine x_pure rfl rfl rfl (l_field rfl fo_36_1) ?_
    refine x_light rfl rfl rfl (L_load rfl (by first | exact d_bp ty_22 | exact ld_rp ty_22 rfl | exact d_ep ty_22)) ?_
    refine x_pure rfl rfl rfl (l_field rfl fo_36_1) ?_
    refine x_light rfl rfl rfl (L_load rfl (by first | exact d_bp ty_22 | exact ld_rp ty_22 rfl | exact d_ep ty_22)) ?_
    refine x_call rfl rfl rfl rfl rfl ca_44 (c_spec_l13Lists a1 b1) ?_
    rintro r S ⟨rfl, rfl⟩
    refine x_pure rfl rfl rfl (L_not rfl rfl) ?_
    refine x_pure rfl rfl rfl (L_pick rfl rfl) ?_
    refine x_pure rfl rfl rfl (L_move rfl) ?_
    refine EOps_split 21 (b := _) rfl (fun hg21 => ?_) (fun hg21 => ?_)
    · refine x_skip rfl rfl rfl ?_
      refine x_skip rfl rfl rfl ?_
      refine x_skip rfl rfl rfl ?_
      refine x_skip rfl rfl rfl ?_
      refine x_skip rfl rfl rfl ?_
      refine x_skip rfl rfl rfl ?_
      refine x_pure rfl rfl rfl (L_pick rfl rfl) ?_
      refine x_pure rfl rfl rfl (L_move rfl) ?_
      refine x_skip rfl rfl rfl ?_
      refine x_skip rfl rfl rfl ?_
      refine x_skip rfl rfl rfl ?_
      refine x_skip rfl rfl rfl ?_
      refine x_skip rfl rfl rfl ?_
      refine x_skip rfl rfl rfl ?_
      refine x_skip rfl rfl rfl ?_
      refine x_pure rfl rfl rfl (L_pick rfl rfl) ?_
      refine x_pure rfl rfl rfl (L_move rfl) ?_
      refine x_skip rfl rfl rfl ?_
      refine x_skip rfl rfl rfl ?_
      refine x_skip rfl rfl rfl ?_
      refine x_skip rfl rfl rfl ?_
      refine x_skip rfl rfl rfl ?_
      refine x_skip rfl rfl rfl ?_
      refine x_skip rfl rfl rfl ?_
      refine x_pure rfl rfl rfl (L_pick rfl rfl) ?_
      refine x_pure rfl rfl rfl (L_move rfl) ?_
      refine x_skip rfl rfl rfl ?_
      refine x_skip rfl rfl rfl ?_
      refine x_skip rfl rfl rfl ?_
      refine x_skip rfl rfl rfl ?_
      refine x_skip rfl rfl rfl ?_
      refine x_skip rfl rfl rfl ?_
      refine x_pure rfl rfl rfl (L_pick rfl rfl) ?_
      refine x_pure rfl rfl rfl (L_move rfl) ?_
      refine x_skip rfl rfl rfl ?_
      refine x_skip rfl rfl rfl ?_
      refine x_skip rfl rfl rfl ?_
      refine x_skip rfl rfl rfl ?_
      refine x_skip rfl rfl rfl ?_
      refine x_pure rfl rfl rfl (L_pick rfl rfl) ?_
      refine x_pure rfl rfl rfl (L_move rfl) ?_
      refine x_skip rfl rfl rfl ?_
      refine x_skip rfl rfl rfl ?_
      refine x_skip rfl rfl rfl ?_
      refine x_skip rfl rfl rfl ?_
      refine x_skip rfl rfl rfl ?_
      refine x_pure rfl rfl rfl (L_pick rfl rfl) ?_
      refine EOps_nil ?_
      refine E_cond rfl (fun hc68 => ?_) (fun hc68 => ?_)
      · have hne : ¬ ((⟨a0, a1, a2, a3, a4, a5, a6, a7⟩ : MSt) = ⟨b0, b1, b2, b3, b4, b5, b6, b7⟩) := by
          rintro ⟨⟩
          simp_all
        refine E_seq ?_
        refine E_region' (L := [0]) rfl ?_
        refine x_pure rfl rfl rfl (L_assign rfl) ?_
        refine EOps_nil ?_
        refine E_ret ?_
        refine ⟨_, [], rfl, rfl, bool_eq ?_, rfl⟩
        first
          | (simp only [hne, decide_false]; done)
          | (simp [hne]; done)
          | (simp [he3, he4]; done)
      · exact Bool.noConfusion (hc68 : true = false)
    · refine x_pure rfl rfl rfl (l_field rfl fo_36_2) ?_
      refine x_light rfl rfl rfl (L_load rfl (by first | exact d_bp ty_27 | exact ld_rp ty_27 rfl | exact d_ep ty_27)) ?_
      refine x_pure rfl rfl rfl (l_field rfl fo_36_2) ?_
      refine x_light rfl rfl rfl (L_load rfl (by first | exact d_bp ty_27 | exact ld_rp ty_27 rfl | exact d_ep ty_27)) ?_
      refine x_call rfl rfl rfl rfl rfl ca_55 (c_spec_l4Ints a2 b2) ?_
      rintro r S ⟨rfl, rfl⟩
      refine x_pure rfl rfl rfl (L_not rfl rfl) ?_
      refine x_pure rfl rfl rfl (L_pick rfl rfl) ?_
      refine x_pure rfl rfl rfl (L_move rfl) ?_
      refine EOps_split 29 (b := _) rfl (fun hg29 => ?_) (fun hg29 => ?_)
      · refine x_skip rfl rfl rfl ?_
        refine x_skip rfl rfl rfl ?_
        refine x_skip rfl rfl rfl ?_
        refine x_skip rfl rfl rfl ?_
        refine x_skip rfl rfl rfl ?_
        refine x_skip rfl rfl rfl ?_
        refine x_skip rfl rfl rfl ?_
        refine x_pure rfl rfl rfl (L_pick rfl rfl) ?_
        refine x_pure rfl rfl rfl (L_move rfl) ?_
        refine x_skip rfl rfl rfl ?_
        refine x_skip rfl rfl rfl ?_
        refine x_skip rfl rfl rfl ?_
        refine x_skip rfl rfl rfl ?_
        refine x_skip rfl rfl rfl ?_
        refine x_skip rfl rfl rfl ?_
        refine x_skip rfl rfl rfl ?_
        refine x_pure rfl rfl rfl (L_pick rfl rfl) ?_
        refine x_pure rfl rfl rfl (L_move rfl) ?_
        refine x_skip rfl rfl rfl ?_
        refine x_skip rfl rfl rfl ?_
        refine x_skip rfl rfl rfl ?_
        refine x_skip rfl rfl rfl ?_
        refine x_skip rfl rfl rfl ?_
        refine x_skip rfl rfl rfl ?_
        refine x_pure rfl rfl rfl (L_pick rfl rfl) ?_
        refine x_pure rfl rfl rfl (L_move rfl) ?_
        refine x_skip rfl rfl rfl ?_
        refine x_skip rfl rfl rfl ?_
        refine x_skip rfl rfl rfl ?_
        refine x_skip rfl rfl rfl ?_
        refine x_skip rfl rfl rfl ?_
        refine x_pure rfl rfl rfl (L_pick rfl rfl) ?_
        refine x_pure rfl rfl rfl (L_move rfl) ?_
        refine x_skip rfl rfl rfl ?_
        refine x_skip rfl rfl rfl ?_
        refine x_skip rfl rfl rfl ?_
        refine x_skip rfl rfl rfl ?_
        refine x_skip rfl rfl rfl ?_
        refine x_pure rfl rfl rfl (L_pick rfl rfl) ?_
        refine EOps_nil ?_
        refine E_cond rfl (fun hc68 => ?_) (fun hc68 => ?_)
        · have hne : ¬ ((⟨a0, a1, a2, a3, a4, a5, a6, a7⟩ : MSt) = ⟨b0, b1, b2, b3, b4, b5, b6, b7⟩) := by
            rintro ⟨⟩
            simp_all
          refine E_seq ?_
          refine E_region' (L := [0]) rfl ?_
          refine x_pure rfl rfl rfl (L_assign rfl) ?_
          refine EOps_nil ?_
          refine E_ret ?_
          refine ⟨_, [], rfl, rfl, bool_eq ?_, rfl⟩
          first
            | (simp only [hne, decide_false]; done)
            | (simp [hne]; done)
            | (simp [he3, he4]; done)
        · exact Bool.noConfusion (hc68 : true = false)
      · refine x_pure rfl rfl rfl (l_field rfl fo_36_3) ?_
        refine x_light rfl rfl rfl (L_load rfl (by first | exact d_bp ty_34 | exact ld_rp ty_34 rfl | exact d_ep ty_34)) ?_
        refine x_pure rfl rfl rfl (l_len rfl sl_34) ?_
        refine x_pure rfl rfl rfl (l_field rfl fo_36_3) ?_
        refine x_light rfl rfl rfl (L_load rfl (by first | exact d_bp ty_34 | exact ld_rp ty_34 rfl | exact d_ep ty_34)) ?_
        refine x_pure rfl rfl rfl (l_len rfl sl_34) ?_
        refine x_pure rfl rfl rfl (L_bin rfl rfl rfl rfl) ?_
        refine x_pure rfl rfl rfl (L_pick rfl rfl) ?_
        refine x_pure rfl rfl rfl (L_move rfl) ?_
        refine EOps_split 38 (b := _) rfl (fun hg38 => ?_) (fun hg38 => ?_)
        · refine x_skip rfl rfl rfl ?_
          refine x_skip rfl rfl rfl ?_
          refine x_skip rfl rfl rfl ?_
          refine x_skip rfl rfl rfl ?_
          refine x_skip rfl rfl rfl ?_
          refine x_skip rfl rfl rfl ?_
          refine x_skip rfl rfl rfl ?_
          refine x_pure rfl rfl rfl (L_pick rfl rfl) ?_
          refine x_pure rfl rfl rfl (L_move rfl) ?_
          refine x_skip rfl rfl rfl ?_
          refine x_skip rfl rfl rfl ?_
          refine x_skip rfl rfl rfl ?_
          refine x_skip rfl rfl rfl ?_
          refine x_skip rfl rfl rfl ?_
          refine x_skip rfl rfl rfl ?_
          refine x_pure rfl rfl rfl (L_pick rfl rfl) ?_
          refine x_pure rfl rfl rfl (L_move rfl) ?_
          refine x_skip rfl rfl rfl ?_
          refine x_skip rfl rfl rfl ?_
          refine x_skip rfl rfl rfl ?_
          refine x_skip rfl rfl rfl ?_
          refine x_skip rfl rfl rfl ?_
          refine x_pure rfl rfl rfl (L_pick rfl rfl) ?_
          refine x_pure rfl rfl rfl (L_move rfl) ?_
          refine x_skip rfl rfl rfl ?_
          refine x_skip rfl rfl rfl ?_
          refine x_skip rfl rfl rfl ?_
          refine x_skip rfl rfl rfl ?_
          refine x_skip rfl rfl rfl ?_
          refine x_pure rfl rfl rfl (L_pick rfl rfl) ?_
          refine EOps_nil ?_
          refine E_cond rfl (fun hc68 => ?_) (fun hc68 => ?_)
          · have hne : ¬ ((⟨a0, a1, a2, a3, a4, a5, a6, a7⟩ : MSt) = ⟨b0, b1, b2, b3, b4, b5, b6, b7⟩) := by
              rintro ⟨⟩
              simp_all
            refine E_seq ?_
            refine E_region' (L := [0]) rfl ?_
            refine x_pure rfl rfl rfl (L_assign rfl) ?_
            refine EOps_nil ?_
            refine E_ret ?_
            refine ⟨_, [], rfl, rfl, bool_eq ?_, rfl⟩
            first
              | (simp only [hne, decide_false]; done)
              | (simp [hne]; done)
              | (simp [he3, he4]; done)
          · exact Bool.noConfusion (hc68 : true = false)
        · refine x_pure rfl rfl rfl (l_field rfl fo_36_4) ?_
          refine x_light rfl rfl rfl (L_load rfl (by first | exact d_bp ty_29 | exact ld_rp ty_29 rfl | exact d_ep ty_29)) ?_
          refine x_pure rfl rfl rfl (l_len rfl sl_29) ?_
          refine x_pure rfl rfl rfl (l_field rfl fo_36_4) ?_
          refine x_light rfl rfl rfl (L_load rfl (by first | exact d_bp ty_29 | exact ld_rp ty_29 rfl | exact d_ep ty_29)) ?_
          refine x_pure rfl rfl rfl (l_len rfl sl_29) ?_
          refine x_pure rfl rfl rfl (L_bin rfl rfl rfl rfl) ?_
          refine x_pure rfl rfl rfl (L_pick rfl rfl) ?_
          refine x_pure rfl rfl rfl (L_move rfl) ?_
          refine EOps_split 47 (b := _) rfl (fun hg47 => ?_) (fun hg47 => ?_)
          · refine x_skip rfl rfl rfl ?_
            refine x_skip rfl rfl rfl ?_
            refine x_skip rfl rfl rfl ?_
            refine x_skip rfl rfl rfl ?_
            refine x_skip rfl rfl rfl ?_
            refine x_skip rfl rfl rfl ?_
            refine x_pure rfl rfl rfl (L_pick rfl rfl) ?_
            refine x_pure rfl rfl rfl (L_move rfl) ?_
            refine x_skip rfl rfl rfl ?_
            refine x_skip rfl rfl rfl ?_
            refine x_skip rfl rfl rfl ?_
            refine x_skip rfl rfl rfl ?_
            refine x_skip rfl rfl rfl ?_
            refine x_pure rfl rfl rfl (L_pick rfl rfl) ?_
            refine x_pure rfl rfl rfl (L_move rfl) ?_
            refine x_skip rfl rfl rfl ?_
            refine x_skip rfl rfl rfl ?_
            refine x_skip rfl rfl rfl ?_
            refine x_skip rfl rfl rfl ?_
            refine x_skip rfl rfl rfl ?_
            refine x_pure rfl rfl rfl (L_pick rfl rfl) ?_
            refine EOps_nil ?_
            refine E_cond rfl (fun hc68 => ?_) (fun hc68 => ?_)
            · have hne : ¬ ((⟨a0, a1, a2, a3, a4, a5, a6, a7⟩ : MSt) = ⟨b0, b1, b2, b3, b4, b5, b6, b7⟩) := by
                rintro ⟨⟩
                simp_all
              refine E_seq ?_
              refine E_region' (L := [0]) rfl ?_
              refine x_pure rfl rfl rfl (L_assign rfl) ?_
              refine EOps_nil ?_
              refine E_ret ?_
              refine ⟨_, [], rfl, rfl, bool_eq ?_, rfl⟩
              first
                | (simp only [hne, decide_false]; done)
                | (simp [hne]; done)
                | (simp [he3, he4]; done)
            · exact Bool.noConfusion (hc68 : true = false)
          · refine x_pure rfl rfl rfl (l_field rfl fo_36_5) ?_
            refine x_light rfl rfl rfl (L_load rfl (by first | exact d_bp ty_27 | exact ld_rp ty_27 rfl | exact d_ep ty_27)) ?_
            refine x_pure rfl rfl rfl (l_field rfl fo_36_5) ?_
            refine x_light rfl rfl rfl (L_load rfl (by first | exact d_bp ty_27 | exact ld_rp ty_27 rfl | exact d_ep ty_27)) ?_
            refine x_call rfl rfl rfl rfl rfl ca_55 (c_spec_l4Ints a5 b5) ?_
            rintro r S ⟨rfl, rfl⟩
            refine x_pure rfl rfl rfl (L_not rfl rfl) ?_
            refine x_pure rfl rfl rfl (L_pick rfl rfl) ?_
            refine x_pure rfl rfl rfl (L_move rfl) ?_
            refine EOps_split 55 (b := _) rfl (fun hg55 => ?_) (fun hg55 => ?_)
            · refine x_skip rfl rfl rfl ?_
              refine x_skip rfl rfl rfl ?_
              refine x_skip rfl rfl rfl ?_
              refine x_skip rfl rfl rfl ?_
              refine x_skip rfl rfl rfl ?_
              refine x_pure rfl rfl rfl (L_pick rfl rfl) ?_
              refine x_pure rfl rfl rfl (L_move rfl) ?_
              refine x_skip rfl rfl rfl ?_
              refine x_skip rfl rfl rfl ?_
              refine x_skip rfl rfl rfl ?_
              refine x_skip rfl rfl rfl ?_
              refine x_skip rfl rfl rfl ?_
              refine x_pure rfl rfl rfl (L_pick rfl rfl) ?_
              refine EOps_nil ?_
              refine E_cond rfl (fun hc68 => ?_) (fun hc68 => ?_)
              · have hne : ¬ ((⟨a0, a1, a2, a3, a4, a5, a6, a7⟩ : MSt) = ⟨b0, b1, b2, b3, b4, b5, b6, b7⟩) := by
                  rintro ⟨⟩
                  simp_all
                refine E_seq ?_
                refine E_region' (L := [0]) rfl ?_
                refine x_pure rfl rfl rfl (L_assign rfl) ?_
                refine EOps_nil ?_
                refine E_ret ?_
                refine ⟨_, [], rfl, rfl, bool_eq ?_, rfl⟩
                first
                  | (simp only [hne, decide_false]; done)
                  | (simp [hne]; done)
                  | (simp [he3, he4]; done)
              · exact Bool.noConfusion (hc68 : true = false)
            · refine x_pure rfl rfl rfl (l_field rfl fo_36_6) ?_
              refine x_light rfl rfl rfl (L_load rfl (by first | exact d_bp ty_3 | exact ld_rp ty_3 rfl | exact d_ep ty_3)) ?_
              refine x_pure rfl rfl rfl (l_field rfl fo_36_6) ?_
              refine x_light rfl rfl rfl (L_load rfl (by first | exact d_bp ty_3 | exact ld_rp ty_3 rfl | exact d_ep ty_3)) ?_
              refine x_pure rfl rfl rfl (L_bin rfl rfl rfl rfl) ?_
              refine x_pure rfl rfl rfl (L_pick rfl rfl) ?_
              refine x_pure rfl rfl rfl (L_move rfl) ?_
              refine EOps_split 62 (b := _) rfl (fun hg62 => ?_) (fun hg62 => ?_)
              · refine x_skip rfl rfl rfl ?_
                refine x_skip rfl rfl rfl ?_
                refine x_skip rfl rfl rfl ?_
                refine x_skip rfl rfl rfl ?_
                refine x_skip rfl rfl rfl ?_
                refine x_pure rfl rfl rfl (L_pick rfl rfl) ?_
                refine EOps_nil ?_
                refine E_cond rfl (fun hc68 => ?_) (fun hc68 => ?_)
                · have hne : ¬ ((⟨a0, a1, a2, a3, a4, a5, a6, a7⟩ : MSt) = ⟨b0, b1, b2, b3, b4, b5, b6, b7⟩) := by
                    rintro ⟨⟩
                    simp_all
                  refine E_seq ?_
                  refine E_region' (L := [0]) rfl ?_
                  refine x_pure rfl rfl rfl (L_assign rfl) ?_
                  refine EOps_nil ?_
                  refine E_ret ?_
                  refine ⟨_, [], rfl, rfl, bool_eq ?_, rfl⟩
                  first
                    | (simp only [hne, decide_false]; done)
                    | (simp [hne]; done)
                    | (simp [he3, he4]; done)
                · exact Bool.noConfusion (hc68 : true = false)
              · refine x_pure rfl rfl rfl (l_field rfl fo_36_7) ?_
                refine x_light rfl rfl rfl (L_load rfl (by first | exact d_bp ty_3 | exact ld_rp ty_3 rfl | exact d_ep ty_3)) ?_
                refine x_pure rfl rfl rfl (l_field rfl fo_36_7) ?_
                refine x_light rfl rfl rfl (L_load rfl (by first | exact d_bp ty_3 | exact ld_rp ty_3 rfl | exact d_ep ty_3)) ?_
                refine x_pure rfl rfl rfl (L_bin rfl rfl rfl rfl) ?_
                refine x_pure rfl rfl rfl (L_pick rfl rfl) ?_
                refine EOps_nil ?_
                refine E_cond rfl (fun hc68 => ?_) (fun hc68 => ?_)
                · have hne : ¬ ((⟨a0, a1, a2, a3, a4, a5, a6, a7⟩ : MSt) = ⟨b0, b1, b2, b3, b4, b5, b6, b7⟩) := by
                    rintro ⟨⟩
                    simp_all
                  refine E_seq ?_
                  refine E_region' (L := [0]) rfl ?_
                  refine x_pure rfl rfl rfl (L_assign rfl) ?_
                  refine EOps_nil ?_
                  refine E_ret ?_
                  refine ⟨_, [], rfl, rfl, bool_eq ?_, rfl⟩
                  first
                    | (simp only [hne, decide_false]; done)
                    | (simp [hne]; done)
                    | (simp [he3, he4]; done)
                · have hfe : a0 = b0 ∧ a1 = b1 ∧ a2 = b2 ∧ a3.length = b3.length ∧ a4.length = b4.length ∧ a5 = b5 ∧ a6 = b6 ∧ a7 = b7 := by
                    simp [mps_len, bools_len] at *
                    refine ⟨by assumption, by assumption, by assumption, by omega, by omega, by assumption, by omega, by omega⟩
                  obtain ⟨rfl, rfl, rfl, hl3, hl4, rfl, rfl, rfl⟩ := hfe
                  refine E_skip ?_
                  refine E_seq ?_
                  refine E_seq ?_
                  refine E_region' (L := [0]) rfl ?_
                  refine x_pure rfl rfl rfl (L_assign rfl) ?_
                  refine EOps_nil ?_
                  refine E_block ?_
                  refine e_for (α := Nat) [0, 1, 2, 3, 68] (fun k => [(5, .c (.sc (.int .i64 (k))))]) (fun _ => _) (fun k => k ≤ a3.length ∧ a3.take k = b3.take k) (fun k => a3.length - k) (0) ?_ (rfl) ⟨.inr rfl, trivial⟩ ?_
                  · simp
                  rintro k ⟨hk, htk⟩
                  refine E_seq ?_
                  refine E_seq ?_
                  refine E_region' (L := [0, 1, 2, 3, 4]) rfl ?_
                  refine x_pure rfl rfl rfl (L_move rfl) ?_
                  refine x_pure rfl rfl rfl (l_field rfl fo_36_3) ?_
                  refine x_light rfl rfl rfl (L_load rfl (by first | exact d_bp ty_34 | exact ld_rp ty_34 rfl | exact d_ep ty_34)) ?_
                  refine x_pure rfl rfl rfl (l_len rfl sl_34) ?_
                  refine x_pure rfl rfl rfl (L_bin rfl rfl rfl rfl) ?_
                  refine EOps_nil ?_
                  refine E_cond rfl (fun hc73 => ?_) (fun hc73 => ?_)
                  · refine (X_bound 71 rfl).E fun hb3 => ?_
                    have hb3 : a3.length ≤ 9223372036854775807 := by have := hb3.down; simpa [mps_len] using this
                    have hk' : k < a3.length := by simpa [mps_len] using hc73
                    obtain ⟨x, hx⟩ := at_lt hk'
                    obtain ⟨y, hy⟩ := at_lt (l := b3) (k := k) (by omega)
                    have hnx := mps_get hx
                    have hny := mps_get hy
                    refine E_skip ?_
                    refine E_seq ?_
                    refine E_block ?_
                    refine E_seq ?_
                    refine e_tidy [0, 1, 2, 3, 4, 5, 68, 73, 87] ?_
                    refine E_drawT mixed ?_
                    refine t_old 0 rfl rfl rfl (l_field rfl fo_36_3) ?_
                    refine t_light 1 rfl rfl rfl (L_load rfl (by first | exact d_bp ty_34 | exact ld_rp ty_34 rfl | exact d_ep ty_34)) ?_
                    refine t_old 2 rfl rfl rfl (L_move rfl) ?_
                    refine t_old 3 rfl rfl rfl (L_index rfl rfl (by first | exact i_ro sl_34 ty_74 | exact i_sl sl_34 ty_74)) ?_
                    refine t_light 4 rfl rfl rfl (L_load rfl (by first | exact d_bp ty_74 | exact ld_rp ty_74 rfl | exact d_ep ty_74)) ?_
                    refine t_old 5 rfl rfl rfl (l_field rfl fo_36_3) ?_
                    refine t_light 6 rfl rfl rfl (L_load rfl (by first | exact d_bp ty_34 | exact ld_rp ty_34 rfl | exact d_ep ty_34)) ?_
                    refine t_old 7 rfl rfl rfl (L_move rfl) ?_
                    refine t_old 8 rfl rfl rfl (L_index rfl rfl (by first | exact i_ro sl_34 ty_74 | exact i_sl sl_34 ty_74)) ?_
                    refine t_light 9 rfl rfl rfl (L_load rfl (by first | exact d_bp ty_74 | exact ld_rp ty_74 rfl | exact d_ep ty_74)) ?_
                    refine t_call 10 rfl rfl rfl rfl rfl ca_56 (c_spec_EqualMaps x y) ?_
                    rintro r S ⟨rfl, rfl⟩
                    refine t_old 11 rfl rfl rfl (L_not rfl rfl) ?_
                    refine T_done (by kernel_rfl) ?_
                    refine E_cond rfl (fun hc87 => ?_) (fun hc87 => ?_)
                    · have hne : a3 ≠ b3 := fun e => by subst e; rw [hx] at hy; cases hy; simp at hc87
                      refine E_seq ?_
                      refine E_region' (L := [0]) rfl ?_
                      refine x_pure rfl rfl rfl (L_assign rfl) ?_
                      refine EOps_nil ?_
                      refine E_ret ?_
                      refine ⟨_, [], rfl, rfl, bool_eq ?_, rfl⟩
                      first
                        | (simp only [hne, decide_false]; done)
                        | (simp [hne]; done)
                        | (simp [he3, he4]; done)
                    · have hxy : x = y := by simpa using hc87
                      refine E_skip ?_
                      refine E_region' (L := [0, 1, 2]) rfl ?_
                      refine x_pure rfl rfl rfl (L_move rfl) ?_
                      refine x_pure rfl rfl rfl (by first | exact l_add rfl rfl rfl | exact L_bin rfl rfl rfl rfl) ?_
                      refine x_pure rfl rfl rfl (L_assign rfl) ?_
                      refine EOps_nil ?_
                      refine ⟨k + 1, ?_, ?_, rfl, ⟨.inr rfl, trivial⟩, ⟨.inr rfl, .inr rfl, .inr rfl, .inr rfl, .inr rfl, trivial⟩⟩
                      · first | omega | (dsimp only; omega) | (simp; omega)
                      · exact ⟨by omega, by rw [List.take_add_one, List.take_add_one, htk, hx, hy, hxy]⟩
                  · have hk' : a3.length ≤ k := by simpa [mps_len] using hc73
                    have he3 : a3 = b3 := by rw [List.take_of_length_le hk', List.take_of_length_le (by omega)] at htk; exact htk
                    refine E_exit ?_
                    refine E_seq ?_
                    refine E_seq ?_
                    refine E_region' (L := [0]) rfl ?_
                    refine x_pure rfl rfl rfl (L_assign rfl) ?_
                    refine EOps_nil ?_
                    refine E_block ?_
                    refine e_for (α := Nat) [0, 1, 2, 3, 5, 68, 73, 87] (fun j => [(6, .c (.sc (.int .i64 (j))))]) (fun _ => _) (fun j => j ≤ a4.length ∧ a4.take j = b4.take j) (fun j => a4.length - j) (0) ?_ (rfl) ⟨.inr rfl, trivial⟩ ?_
                    · simp
                    rintro j ⟨hj, htj⟩
                    refine E_seq ?_
                    refine E_seq ?_
                    refine E_region' (L := [0, 1, 2, 3, 4]) rfl ?_
                    refine x_pure rfl rfl rfl (L_move rfl) ?_
                    refine x_pure rfl rfl rfl (l_field rfl fo_36_4) ?_
                    refine x_light rfl rfl rfl (L_load rfl (by first | exact d_bp ty_29 | exact ld_rp ty_29 rfl | exact d_ep ty_29)) ?_
                    refine x_pure rfl rfl rfl (l_len rfl sl_29) ?_
                    refine x_pure rfl rfl rfl (L_bin rfl rfl rfl rfl) ?_
                    refine EOps_nil ?_
                    refine E_cond rfl (fun hc92 => ?_) (fun hc92 => ?_)
                    · refine (X_bound 90 rfl).E fun hb4 => ?_
                      have hb4 : a4.length ≤ 9223372036854775807 := by have := hb4.down; simpa [bools_len] using this
                      have hj' : j < a4.length := by simpa [bools_len] using hc92
                      obtain ⟨x, hx⟩ := at_lt hj'
                      obtain ⟨y, hy⟩ := at_lt (l := b4) (k := j) (by omega)
                      have hnx := bools_at hx
                      have hny := bools_at hy
                      refine E_skip ?_
                      refine E_seq ?_
                      refine E_block ?_
                      refine E_seq ?_
                      refine E_drawT mixed ?_
                      refine t_old 0 rfl rfl rfl (l_field rfl fo_36_4) ?_
                      refine t_light 1 rfl rfl rfl (L_load rfl (by first | exact d_bp ty_29 | exact ld_rp ty_29 rfl | exact d_ep ty_29)) ?_
                      refine t_old 2 rfl rfl rfl (L_move rfl) ?_
                      refine t_old 3 rfl rfl rfl (L_index rfl rfl (by first | exact i_ro sl_29 ty_4 | exact i_sl sl_29 ty_4)) ?_
                      refine t_light 4 rfl rfl rfl (L_load rfl (by first | exact d_bp ty_4 | exact ld_rp ty_4 rfl | exact d_ep ty_4)) ?_
                      refine t_old 5 rfl rfl rfl (l_field rfl fo_36_4) ?_
                      refine t_light 6 rfl rfl rfl (L_load rfl (by first | exact d_bp ty_29 | exact ld_rp ty_29 rfl | exact d_ep ty_29)) ?_
                      refine t_old 7 rfl rfl rfl (L_move rfl) ?_
                      refine t_old 8 rfl rfl rfl (L_index rfl rfl (by first | exact i_ro sl_29 ty_4 | exact i_sl sl_29 ty_4)) ?_
                      refine t_light 9 rfl rfl rfl (L_load rfl (by first | exact d_bp ty_4 | exact ld_rp ty_4 rfl | exact d_ep ty_4)) ?_
                      refine t_old 10 rfl rfl rfl (L_binB rfl bo_4 rfl rfl rfl) ?_
                      refine T_done (by kernel_rfl) ?_
                      refine E_cond rfl (fun hc105 => ?_) (fun hc105 => ?_)
                      · have hne : a4 ≠ b4 := fun e => by subst e; rw [hx] at hy; cases hy; simp at hc105
                        refine E_seq ?_
                        refine E_region' (L := [0]) rfl ?_
                        refine x_pure rfl rfl rfl (L_assign rfl) ?_
                        refine EOps_nil ?_
                        refine E_ret ?_
                        refine ⟨_, [], rfl, rfl, bool_eq ?_, rfl⟩
                        first
                          | (simp only [hne, decide_false]; done)
                          | (simp [hne]; done)
                          | (simp [he3, he4]; done)
                      · have hxy : x = y := by simpa using hc105
                        refine E_skip ?_
                        refine E_region' (L := [0, 1, 2]) rfl ?_
                        refine x_pure rfl rfl rfl (L_move rfl) ?_
                        refine x_pure rfl rfl rfl (by first | exact l_add rfl rfl rfl | exact L_bin rfl rfl rfl rfl) ?_
                        refine x_pure rfl rfl rfl (L_assign rfl) ?_
                        refine EOps_nil ?_
                        refine ⟨j + 1, ?_, ?_, rfl, ⟨.inr rfl, trivial⟩, ⟨.inr rfl, .inr rfl, .inr rfl, .inr rfl, .inr rfl, .inr rfl, .inr rfl, .inr rfl, trivial⟩⟩
                        · first | omega | (dsimp only; omega) | (simp; omega)
                        · exact ⟨by omega, by rw [List.take_add_one, List.take_add_one, htj, hx, hy, hxy]⟩
                    · have hj' : a4.length ≤ j := by simpa [bools_len] using hc92
                      have he4 : a4 = b4 := by rw [List.take_of_length_le hj', List.take_of_length_le (by omega)] at htj; exact htj
                      refine E_exit ?_
                      refine E_seq ?_
                      refine E_region' (L := [0]) rfl ?_
                      refine x_pure rfl rfl rfl (L_assign rfl) ?_
                      refine EOps_nil ?_
                      refine E_ret ?_
                      refine ⟨_, [], rfl, rfl, bool_eq ?_, rfl⟩
                      first
                        | (simp only [hne, decide_false]; done)
                        | (simp [hne]; done)
                        | (simp [he3, he4]; done)

end Go.Proofs.Ythlhmpknngidmaa.E
