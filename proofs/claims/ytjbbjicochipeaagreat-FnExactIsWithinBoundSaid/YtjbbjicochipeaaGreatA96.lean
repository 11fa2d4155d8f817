/- Walks through functions, by program out of the session's annotations. -/
import Derived.Test.YtjbbjicochipeaaGreatA91
import Derived.Test.YtjbbjicochipeaaGreatA90
namespace Go.Proofs.YtjbbjicochipeaaGreat.E
open Go Go.RowKit Go.Proofs
set_option linter.unusedVariables false
set_option linter.unusedSimpArgs false

set_option maxRecDepth 20000 in
set_option maxHeartbeats 2000000 in
theorem c_laws_toSettings (s : Sett) : EFn Tryz.prog 8 [.agg (setC s)] [] (fun r S => r = .agg (setC s) ∧ S = []) := by
 refine E_fn Tryz.func8 rfl (Nat.le_of_ble_eq_true rfl) ?_
 refine E_seq ?_
 refine E_region' (L:=[0,1]) rfl ?_
 refine x_box rfl rfl rfl rfl rfl ?_
 refine x_alloc rfl rfl rfl rfl za_29 ?_
 refine EOps_nil ?_
 refine E_seq ?_
 refine E_region' (L:=[0]) rfl ?_
 refine x_alloc rfl rfl rfl rfl za_29 ?_
 refine EOps_nil ?_
 refine E_seq ?_
 refine E_region' (L:=[0,1,2,3]) rfl ?_
 refine p_ rfl (l_field rfl fo_24_0) ?_
 refine l_ rfl (L_load rfl (xb0 ty_3)) ?_
 refine p_ rfl (l_field rfl fo_29_0) ?_
 refine EOps_go rfl rfl (EOp_store rfl rfl rfl (xb1 ty_3) ?_)
 refine EOps_nil ?_
 refine E_seq ?_
 refine E_region' (L:=[0,1,2,3]) rfl ?_
 refine p_ rfl (l_field rfl fo_24_1) ?_
 refine l_ rfl (L_load rfl (xb0 ty_3)) ?_
 refine p_ rfl (l_field rfl fo_29_1) ?_
 refine EOps_go rfl rfl (EOp_store rfl rfl rfl (xb1 ty_3) ?_)
 refine EOps_nil ?_
 refine E_seq ?_
 refine E_region' (L:=[0,1,2,3]) rfl ?_
 refine p_ rfl (l_field rfl fo_24_2) ?_
 refine l_ rfl (L_load rfl (xb0 ty_3)) ?_
 refine p_ rfl (l_field rfl fo_29_2) ?_
 refine EOps_go rfl rfl (EOp_store rfl rfl rfl (xb1 ty_3) ?_)
 refine EOps_nil ?_
 refine E_seq ?_
 refine E_region' (L:=[0,1]) rfl ?_
 refine l_ rfl (L_load rfl (xb0 ty_29)) ?_
 refine EOps_go rfl rfl (EOp_store rfl rfl rfl (xb1 ty_29) ?_)
 refine EOps_nil ?_
 refine E_ret ?_
 exact⟨_,[],rfl,rfl,rfl,rfl⟩

end Go.Proofs.YtjbbjicochipeaaGreat.E
