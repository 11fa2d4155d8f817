/- Walks through functions, by program out of the session's annotations. -/
import Derived.Test.YthnadkagchbhbaaGreatA91
import Derived.Test.YthnadkagchbhbaaGreatA90
namespace Go.Proofs.YthnadkagchbhbaaGreat.E
open Go Go.RowKit Go.Proofs
set_option linter.unusedVariables false
set_option linter.unusedSimpArgs false

set_option maxRecDepth 20000 in
set_option maxHeartbeats 2000000 in
theorem c_laws_toSettings (s : Sett) : EFn Tryz.prog 7 [.agg (setC s)] [] (fun r S => r = .agg (setC s) ∧ S = []) := by
 refine E_fn Tryz.func7 rfl (Nat.le_of_ble_eq_true rfl) ?_
 refine E_seq ?_
 refine E_region' (L := [0, 1]) rfl ?_
 refine x_box rfl rfl rfl rfl rfl ?_
 refine x_alloc rfl rfl rfl rfl za_34 ?_
 refine EOps_nil ?_
 refine E_seq ?_
 refine E_region' (L := [0]) rfl ?_
 refine x_alloc rfl rfl rfl rfl za_34 ?_
 refine EOps_nil ?_
 refine E_seq ?_
 refine E_region' (L := [0, 1, 2, 3]) rfl ?_
 refine x_pure rfl rfl rfl (l_field rfl fo_24_0) ?_
 refine x_light rfl rfl rfl (L_load rfl (by first | exact d_bp ty_3 | exact ld_rp ty_3 rfl | exact d_ep ty_3)) ?_
 refine x_pure rfl rfl rfl (l_field rfl fo_34_0) ?_
 refine EOps_go rfl rfl (EOp_store rfl rfl rfl (by first | exact s_bp ty_3 | exact s_ep ty_3) ?_)
 refine EOps_nil ?_
 refine E_seq ?_
 refine E_region' (L := [0, 1, 2, 3]) rfl ?_
 refine x_pure rfl rfl rfl (l_field rfl fo_24_1) ?_
 refine x_light rfl rfl rfl (L_load rfl (by first | exact d_bp ty_3 | exact ld_rp ty_3 rfl | exact d_ep ty_3)) ?_
 refine x_pure rfl rfl rfl (l_field rfl fo_34_1) ?_
 refine EOps_go rfl rfl (EOp_store rfl rfl rfl (by first | exact s_bp ty_3 | exact s_ep ty_3) ?_)
 refine EOps_nil ?_
 refine E_seq ?_
 refine E_region' (L := [0, 1, 2, 3]) rfl ?_
 refine x_pure rfl rfl rfl (l_field rfl fo_24_2) ?_
 refine x_light rfl rfl rfl (L_load rfl (by first | exact d_bp ty_3 | exact ld_rp ty_3 rfl | exact d_ep ty_3)) ?_
 refine x_pure rfl rfl rfl (l_field rfl fo_34_2) ?_
 refine EOps_go rfl rfl (EOp_store rfl rfl rfl (by first | exact s_bp ty_3 | exact s_ep ty_3) ?_)
 refine EOps_nil ?_
 refine E_seq ?_
 refine E_region' (L := [0, 1]) rfl ?_
 refine x_light rfl rfl rfl (L_load rfl (by first | exact d_bp ty_34 | exact ld_rp ty_34 rfl | exact d_ep ty_34)) ?_
 refine EOps_go rfl rfl (EOp_store rfl rfl rfl (by first | exact s_bp ty_34 | exact s_ep ty_34) ?_)
 refine EOps_nil ?_
 refine E_ret ?_
 exact ⟨_, [], rfl, rfl, rfl, rfl⟩

end Go.Proofs.YthnadkagchbhbaaGreat.E
