/- Walks through functions, by program out of the session's annotations. -/
import Derived.Test.YtjbbjicochipeaaGreatA184
namespace Go.Proofs.YtjbbjicochipeaaGreat.E
open Go Go.RowKit Go.Proofs
set_option linter.unusedVariables false
set_option linter.unusedSimpArgs false

set_option maxRecDepth 20000 in
set_option maxHeartbeats 8000000 in
theorem c_impl_LedgerOf (xs : List Int) (s : Sett) (rs : List (Int × Int)) : EFn Tryz.prog 20 [.c (.ro (ints xs)), .agg (setC s), .c (.ro (pairs rs))] [] (fun y S => y = .c (.sl 0 0 (ledL xs s rs).length (ledL xs s rs).length) ∧ S = [.row 76 5 (quints (ledL xs s rs))]) := by
 refine E_fn Tryz.func20 rfl (Nat.le_of_ble_eq_true rfl) ?_
 refine E_G (n:=0) rfl ?_
 refine G_seq ?_
 refine G_region' (L:=[0,1]) rfl ?_
 refine x_box rfl rfl rfl rfl rfl ?_
 refine xas ?_
 refine EOps_nil ?_
 refine G_seq ?_
 refine G_seq ?_
 refine g_tidy_A37_0 [0,1,2,4,6] ?_
 refine G_region' (L:=[0,1,2,3,4]) rfl ?_
 refine xmv ?_
 refine l_ rfl (L_load rfl (xb0 ty_29)) ?_
 refine xmv ?_
 refine x_call rfl rfl rfl rfl rfl ca_33 (c_impl_areQueries xs s rs) ?_
 rintro r S ⟨rfl,rfl⟩
 refine p_ rfl (L_not rfl rfl) ?_
 refine EOps_nil ?_
 refine G_cond rfl (fun hc12=>?_) (fun hc12=>?_)
 ·have hL : ledL xs s rs = [] := by
   have h:areQ xs s rs=false:=by simpa using hc12
   simp [ledL,h]
  refine G_seq ?_
  refine G_region' (L:=[0]) rfl ?_
  refine xas ?_
  refine EOps_nil ?_
  refine G_ghostS 6 76 5 rfl (by decide) ?_
  refine G_ret ?_
  rw [hL]
  exact⟨_,[1],rfl,rfl,rfl,rfl⟩
 have hq : areQ xs s rs = true := by simpa using hc12
 have hL:ledL xs s rs=(ledN xs s rs rs.length).2.2:=by simp [ledL,hq]
 obtain⟨q1,q2,q3,q4⟩:=areQ_parts hq
 refine G_skip ?_
 refine G_seq ?_
 refine G_region' (L:=[0,1,2]) rfl ?_
 refine EOps_go rfl rfl (Heavy.op (H_bslice rfl rfl (by decide) sl_50 ty_76 za_76 ⟨rfl,by decide⟩ (by decide) rfl rfl rfl rfl ?_))
 refine x_alloc rfl rfl rfl rfl za_50 ?_
 refine EOps_go rfl rfl (EOp_store rfl rfl rfl (xb1 ty_50) ?_)
 refine EOps_nil ?_
 refine G_seq ?_
 refine g_tidy_A37_0 [0,1,2,4,6,7,12] ?_
 refine G_region' (L:=[0,1,2,3,4]) rfl ?_
 refine xmv ?_
 refine l_ rfl (L_load rfl (xb0 ty_29)) ?_
 refine xmv ?_
 refine p_ rfl (L_func rfl rfl) ?_
 refine x_frame [2,1] rfl rfl rfl rfl rfl ca_38 rfl (c_impl_queriesB xs s rs q1 q2 q3 q4) ?_
 rintro r S ⟨r0,S0,⟨rfl,rfl⟩,rfl,rfl⟩
 refine EOps_nil ?_
 refine G_seq ?_
 refine G_region' (L:=[0,1]) rfl ?_
 refine l_ rfl (L_load rfl (xb0 ty_50)) ?_
 refine xas ?_
 refine EOps_nil ?_
 refine G_ret ?_
 rw [hL]
 exact⟨_,[1],rfl,rfl,rfl,rfl⟩

end Go.Proofs.YtjbbjicochipeaaGreat.E
