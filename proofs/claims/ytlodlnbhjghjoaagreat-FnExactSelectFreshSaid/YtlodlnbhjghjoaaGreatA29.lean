/- Walks through functions, by program out of the session's annotations. -/
import Derived.Test.YtlodlnbhjghjoaaGreatA28
import Derived.Test.YtlodlnbhjghjoaaGreatF3
namespace Go.Proofs.YtlodlnbhjghjoaaGreat.E
open Go Go.RowKit Go.Proofs
set_option linter.unusedVariables false
set_option linter.unusedSimpArgs false

set_option maxRecDepth 20000 in
set_option maxHeartbeats 2000000 in
theorem c_spec_l11Copy (p : Pnd) (h : p.ins.length ≤ 1048576 ∧ p.del.length ≤ 1048576) : EFn Tryz.prog 137 [.agg (pndC p)] [] (fun r S => r = .agg (pndO 0 p) ∧ S = pndR 3 104 p) := by
 refine E_fn Tryz.func137 rfl (Nat.le_of_ble_eq_true rfl) ?_
 refine E_G (n := 0) rfl ?_
 refine G_seq ?_
 refine G_region' (L := [0, 1]) rfl ?_
 refine x_box rfl rfl rfl rfl rfl ?_
 refine x_alloc rfl rfl rfl rfl za_91 ?_
 refine EOps_nil ?_
 refine G_seq ?_
 refine G_drawT mixed ?_
 refine t_old 1 rfl rfl rfl (l_field rfl fo_91_0) ?_
 refine t_light 2 rfl rfl rfl (L_load rfl (by first | exact d_bp ty_89 | exact ld_rp ty_89 rfl | exact d_ep ty_89)) ?_
 refine t_old 5 rfl rfl rfl (l_field rfl fo_91_1) ?_
 refine t_light 6 rfl rfl rfl (L_load rfl (by first | exact d_bp ty_22 | exact ld_rp ty_22 rfl | exact d_ep ty_22)) ?_
 refine t_fresh 2 [(⟨some (0, 3), 3, 6, 104⟩, _), (⟨some (4, 7), 7, 10, 3⟩, _)] [(3, .any), (6, .any), (7, .any), (10, .any)] [0, 3, 4, 7] ⟨.two rfl rfl rfl (by decide) (F_bslice rfl sl_89 ty_104) rfl rfl rfl (by decide) (f_append (news := pairs p.ins) (m := (p.ins).length) rfl sl_89 ty_104 by_104 za_104 (pairs_len _)), .two rfl rfl rfl (by decide) (F_bslice rfl sl_22 ty_3) rfl rfl rfl (by decide) (f_append (news := ints p.del) (m := (p.del).length) rfl sl_22 ty_3 by_3 za_3 (ints_len _)), trivial⟩ ?_
 refine fk_cons ?_
 rintro r S ⟨rfl, rfl⟩
 refine fk_cons ?_
 rintro r S ⟨rfl, rfl⟩
 refine fk_nil ?_
 refine t_pure 8 rfl rfl rfl (L_build rfl bd_91 rfl rfl) ?_
 refine t_turn 9 rfl rfl (EOp_store rfl rfl rfl (by first | exact s_bp ty_91 | exact s_ep ty_91) ?_)
 refine T_done (by kernel_rfl) ?_
 refine G_ret ?_
 exact ⟨_, [2, 3], rfl, rfl, rfl, rfl⟩

end Go.Proofs.YtlodlnbhjghjoaaGreat.E
