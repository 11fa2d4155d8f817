/- Walks through functions, by program out of the session's annotations. -/
import Derived.Test.YtlodlnbhjghjoaaA33
import Derived.Test.YtlodlnbhjghjoaaRJ
import Derived.Test.YtlodlnbhjghjoaaA26
namespace Go.Proofs.Ytlodlnbhjghjoaa.E
open Go Go.RowKit Go.Proofs
set_option linter.unusedVariables false
set_option linter.unusedSimpArgs false

set_option maxRecDepth 20000 in
set_option maxHeartbeats 2000000 in
theorem c_impl_copyCracker (c : Crk) (h : c.vals.length ≤ 1048576 ∧ c.rows.length ≤ 1048576 ∧ c.piv.length ≤ 1048576) : EFn Try.prog 43 [.agg (crkC c)] [] (fun r S => r = .agg (crkO 0 c) ∧ S = crkR 3 101 c) := by
  refine E_fn Try.func43 rfl (Nat.le_of_ble_eq_true rfl) ?_
  refine E_G (n := 0) rfl ?_
  refine G_seq ?_
  refine G_region' (L := [0, 1]) rfl ?_
  refine x_box rfl rfl rfl rfl rfl ?_
  refine x_alloc rfl rfl rfl rfl za_35 ?_
  refine EOps_nil ?_
  refine G_seq ?_
  refine G_drawT mixed ?_
  refine t_old 0 rfl rfl rfl (l_field rfl fo_35_0) ?_
  refine t_light 1 rfl rfl rfl (L_load rfl (by first | exact d_bp ty_22 | exact ld_rp ty_22 rfl | exact d_ep ty_22)) ?_
  refine t_old 3 rfl rfl rfl (l_field rfl fo_35_1) ?_
  refine t_light 4 rfl rfl rfl (L_load rfl (by first | exact d_bp ty_22 | exact ld_rp ty_22 rfl | exact d_ep ty_22)) ?_
  refine t_old 6 rfl rfl rfl (l_field rfl fo_35_2) ?_
  refine t_light 7 rfl rfl rfl (L_load rfl (by first | exact d_bp ty_33 | exact ld_rp ty_33 rfl | exact d_ep ty_33)) ?_
  refine t_fresh 2 [(⟨none, 2, 5, 0⟩, _), (⟨none, 5, 8, 0⟩, _), (⟨none, 8, 11, 0⟩, _)] [(5, .any), (8, .any), (11, .any)] [2, 5, 8] ⟨.one rfl rfl rfl (by decide) (f_call rfl rfl ca_87 (c_slices_Clone___int_int_ c.vals h.1)), .one rfl rfl rfl (by decide) (f_call rfl rfl ca_87 (c_slices_Clone___int_int_ c.rows h.2.1)), .one rfl rfl rfl (by decide) (f_call rfl rfl ca_88 (c_slices_Clone___impl_Pivot_impl_Pivot_ c.piv h.2.2)), trivial⟩ ?_
  refine fk_cons ?_
  rintro r S ⟨rfl, rfl⟩
  refine fk_cons ?_
  rintro r S ⟨rfl, rfl⟩
  refine fk_cons ?_
  rintro r S ⟨rfl, rfl⟩
  refine fk_nil ?_
  refine t_pure 9 rfl rfl rfl (L_build rfl bd_35 rfl rfl) ?_
  refine t_turn 10 rfl rfl (EOp_store rfl rfl rfl (by first | exact s_bp ty_35 | exact s_ep ty_35) ?_)
  refine T_done (by kernel_rfl) ?_
  refine G_ret ?_
  exact ⟨_, [2, 3, 4], rfl, rfl, rfl, rfl⟩

set_option maxRecDepth 20000 in
set_option maxHeartbeats 2000000 in
theorem c_spec_l4Copy (c : Crk) (h : c.vals.length ≤ 1048576 ∧ c.rows.length ≤ 1048576 ∧ c.piv.length ≤ 1048576) : EFn Try.prog 32 [.agg (crkC c)] [] (fun r S => r = .agg (crkO 0 c) ∧ S = crkR 3 101 c) := by
  refine E_fn Try.func32 rfl (Nat.le_of_ble_eq_true rfl) ?_
  refine E_G (n := 0) rfl ?_
  refine G_seq ?_
  refine G_region' (L := [0, 1]) rfl ?_
  refine x_box rfl rfl rfl rfl rfl ?_
  refine x_alloc rfl rfl rfl rfl za_35 ?_
  refine EOps_nil ?_
  refine G_seq ?_
  refine G_drawT mixed ?_
  refine t_old 1 rfl rfl rfl (l_field rfl fo_35_0) ?_
  refine t_light 2 rfl rfl rfl (L_load rfl (by first | exact d_bp ty_22 | exact ld_rp ty_22 rfl | exact d_ep ty_22)) ?_
  refine t_old 5 rfl rfl rfl (l_field rfl fo_35_1) ?_
  refine t_light 6 rfl rfl rfl (L_load rfl (by first | exact d_bp ty_22 | exact ld_rp ty_22 rfl | exact d_ep ty_22)) ?_
  refine t_old 9 rfl rfl rfl (l_field rfl fo_35_2) ?_
  refine t_light 10 rfl rfl rfl (L_load rfl (by first | exact d_bp ty_33 | exact ld_rp ty_33 rfl | exact d_ep ty_33)) ?_
  refine t_fresh 2 [(⟨some (0, 3), 3, 6, 3⟩, _), (⟨some (4, 7), 7, 10, 3⟩, _), (⟨some (8, 11), 11, 14, 101⟩, _)] [(3, .any), (6, .any), (7, .any), (10, .any), (11, .any), (14, .any)] [0, 3, 4, 7, 8, 11] ⟨.two rfl rfl rfl (by decide) (F_bslice rfl sl_22 ty_3) rfl rfl rfl (by decide) (f_append (news := ints c.vals) (m := (c.vals).length) rfl sl_22 ty_3 by_3 za_3 (ints_len _)), .two rfl rfl rfl (by decide) (F_bslice rfl sl_22 ty_3) rfl rfl rfl (by decide) (f_append (news := ints c.rows) (m := (c.rows).length) rfl sl_22 ty_3 by_3 za_3 (ints_len _)), .two rfl rfl rfl (by decide) (F_bslice rfl sl_33 ty_101) rfl rfl rfl (by decide) (f_append (news := pairs c.piv) (m := (c.piv).length) rfl sl_33 ty_101 by_101 za_101 (pairs_len _)), trivial⟩ ?_
  refine fk_cons ?_
  rintro r S ⟨rfl, rfl⟩
  refine fk_cons ?_
  rintro r S ⟨rfl, rfl⟩
  refine fk_cons ?_
  rintro r S ⟨rfl, rfl⟩
  refine fk_nil ?_
  refine t_pure 12 rfl rfl rfl (L_build rfl bd_35 rfl rfl) ?_
  refine t_turn 13 rfl rfl (EOp_store rfl rfl rfl (by first | exact s_bp ty_35 | exact s_ep ty_35) ?_)
  refine T_done (by kernel_rfl) ?_
  refine G_ret ?_
  exact ⟨_, [2, 3, 4], rfl, rfl, rfl, rfl⟩

end Go.Proofs.Ytlodlnbhjghjoaa.E
