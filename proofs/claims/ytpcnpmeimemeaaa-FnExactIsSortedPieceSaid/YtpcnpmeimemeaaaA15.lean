/- Walks through functions, by program out of the session's annotations. -/
import Derived.Test.YtpcnpmeimemeaaaA14
namespace Go.Proofs.Ytpcnpmeimemeaaa.E
open Go Go.RowKit Go.Proofs
set_option linter.unusedVariables false
set_option linter.unusedSimpArgs false

set_option maxRecDepth 20000 in
set_option maxHeartbeats 2000000 in
theorem c_laws_FnExactIsSortedPiece (c : Crk) (v : Int) : EFn Try.prog 10 [.agg (crkC c), .c (.sc (.int .i64 v))] [] (fun r S => r = .c (.sc (.bool true)) ∧ S = []) := by
  refine E_fn Try.func10 rfl (Nat.le_of_ble_eq_true rfl) ?_
  refine E_seq ?_
  refine E_region' (L := [0, 1]) rfl ?_
  refine x_box rfl rfl rfl rfl rfl ?_
  refine x_pure rfl rfl rfl (L_assign rfl) ?_
  refine EOps_nil ?_
  refine E_seq ?_
  refine E_region' (L := [0]) rfl ?_
  refine x_pure rfl rfl rfl (L_assign rfl) ?_
  refine EOps_nil ?_
  refine E_seq ?_
  refine e_tidy [0, 1, 2, 4, 5] ?_
  refine E_region' (L := [0, 1, 2, 3]) rfl ?_
  refine x_light rfl rfl rfl (L_load rfl (by first | exact d_bp ty_42 | exact ld_rp ty_42 rfl | exact d_ep ty_42)) ?_
  refine x_pure rfl rfl rfl (L_move rfl) ?_
  refine x_call rfl rfl rfl rfl rfl ca_39 (c_laws_szCracker c 1048576 (by omega)) ?_
  rintro r S ⟨rfl, rfl⟩
  refine x_pure rfl rfl rfl (L_assign rfl) ?_
  refine EOps_nil ?_
  refine E_seq ?_
  refine E_seq ?_
  refine E_region' (L := [0, 1]) rfl ?_
  refine x_pure rfl rfl rfl (L_move rfl) ?_
  refine x_pure rfl rfl rfl (L_bin rfl rfl rfl rfl) ?_
  refine EOps_nil ?_
  refine E_cond rfl (fun hc13 => ?_) (fun hc13 => ?_)
  · refine E_seq ?_
    refine E_region' (L := [0]) rfl ?_
    refine x_pure rfl rfl rfl (L_assign rfl) ?_
    refine EOps_nil ?_
    refine E_ret ?_
    refine ⟨_, [], rfl, rfl, ?_, rfl⟩
    simp [AV.ren, ren_sc, ren_ro, AC.ren, AC.ren.rens, ix, rv1, E.get, E.ev, E.cv, E.fill', E.fill, E.slotsOf, *]
  · have h1 : ¬ szR 1048576 (c.vals.length + c.rows.length + c.piv.length) < 0 := by simpa using hc13
    have hla := szR_le h1
    have ha : c.vals.length ≤ 1048576 ∧ c.rows.length ≤ 1048576 ∧ c.piv.length ≤ 1048576 := by omega
    refine E_skip ?_
    refine E_seq ?_
    refine e_tidy [0, 1, 2, 4, 5, 13] ?_
    refine E_region' (L := [0, 1, 2, 3, 4]) rfl ?_
    refine x_light rfl rfl rfl (L_load rfl (by first | exact d_bp ty_42 | exact ld_rp ty_42 rfl | exact d_ep ty_42)) ?_
    refine x_call rfl rfl rfl rfl rfl ca_41 (c_laws_toCracker c ha) ?_
    rintro r S ⟨rfl, rfl⟩
    refine x_pure rfl rfl rfl (L_move rfl) ?_
    refine x_call rfl rfl rfl rfl rfl ca_40 (c_spec_IsSortedPiece c v) ?_
    rintro r S ⟨rfl, rfl⟩
    refine x_pure rfl rfl rfl (L_assign rfl) ?_
    refine EOps_nil ?_
    refine E_seq ?_
    refine e_tidy [0, 1, 2, 4, 5, 6, 13] ?_
    refine E_region' (L := [0, 1, 2, 3]) rfl ?_
    refine x_light rfl rfl rfl (L_load rfl (by first | exact d_bp ty_42 | exact ld_rp ty_42 rfl | exact d_ep ty_42)) ?_
    refine x_call rfl rfl rfl rfl rfl ca_41 (c_laws_toCracker c ha) ?_
    rintro r S ⟨rfl, rfl⟩
    refine x_alloc rfl rfl rfl rfl za_49 ?_
    refine EOps_go rfl rfl (EOp_store rfl rfl rfl (by first | exact s_bp ty_49 | exact s_ep ty_49) ?_)
    refine EOps_nil ?_
    refine E_seq ?_
    refine e_tidy [0, 1, 2, 4, 5, 6, 7, 13] ?_
    refine E_region' (L := [0, 1, 2, 3]) rfl ?_
    refine x_light rfl rfl rfl (L_load rfl (by first | exact d_bp ty_49 | exact ld_rp ty_49 rfl | exact d_ep ty_49)) ?_
    refine x_pure rfl rfl rfl (L_move rfl) ?_
    refine x_call rfl rfl rfl rfl rfl ca_42 (c_impl_IsSortedPiece c v) ?_
    rintro r S ⟨rfl, rfl⟩
    refine x_pure rfl rfl rfl (L_assign rfl) ?_
    refine EOps_nil ?_
    refine E_seq ?_
    refine E_seq ?_
    refine E_region' (L := [0, 1, 2]) rfl ?_
    refine x_pure rfl rfl rfl (L_move rfl) ?_
    refine x_pure rfl rfl rfl (L_move rfl) ?_
    refine x_pure rfl rfl rfl (L_binB rfl bo_4 rfl rfl rfl) ?_
    refine EOps_nil ?_
    refine E_cond rfl (fun hc25 => ?_) (fun hc25 => ?_)
    · simp at hc25
    · refine E_skip ?_
      refine E_seq ?_
      refine E_seq ?_
      refine e_tidy [0, 1, 2, 4, 5, 6, 7, 8, 13, 25] ?_
      refine E_drawT mixed ?_
      refine t_light 0 rfl rfl rfl (L_load rfl (by first | exact d_bp ty_49 | exact ld_rp ty_49 rfl | exact d_ep ty_49)) ?_
      refine t_light 1 rfl rfl rfl (L_load rfl (by first | exact d_bp ty_42 | exact ld_rp ty_42 rfl | exact d_ep ty_42)) ?_
      refine t_call 2 rfl rfl rfl rfl rfl ca_41 (c_laws_toCracker c ha) ?_
      rintro r S ⟨rfl, rfl⟩
      refine t_call 3 rfl rfl rfl rfl rfl ca_43 (c_laws_eqCracker c c) ?_
      rintro r S ⟨rfl, rfl⟩
      refine t_old 4 rfl rfl rfl (L_not rfl rfl) ?_
      refine T_done (by kernel_rfl) ?_
      refine E_cond rfl (fun hc30 => ?_) (fun hc30 => ?_)
      · simp at hc30
      · refine E_skip ?_
        refine E_seq ?_
        refine E_region' (L := [0]) rfl ?_
        refine x_pure rfl rfl rfl (L_assign rfl) ?_
        refine EOps_nil ?_
        refine E_ret ?_
        refine ⟨_, [], rfl, rfl, ?_, rfl⟩
        simp [AV.ren, ren_sc, ren_ro, AC.ren, AC.ren.rens, ix, rv1, E.get, E.ev, E.cv, E.fill', E.fill, E.slotsOf, *]

end Go.Proofs.Ytpcnpmeimemeaaa.E
