/- Walks through functions, by program out of the session's annotations. -/
import Derived.Test.YtlodlnbhjghjoaaGreatA121
import Derived.Test.YtlodlnbhjghjoaaGreatA124
namespace Go.Proofs.YtlodlnbhjghjoaaGreat.E
open Go Go.RowKit Go.Proofs
set_option linter.unusedVariables false
set_option linter.unusedSimpArgs false

set_option maxRecDepth 20000 in
set_option maxHeartbeats 4000000 in
theorem c_spec_DrawSortPiece (l : List Int) (hb : byL l) : EFn Tryz.prog 84 [.c (.ro (bytes l))] [] (fun r S => ∃ (Y : Crk) (v : Int), (r = .tup [(true, crkO 0 Y), (false, [.sc (.int .i64 v)])] ∧ S = crkR 3 151 Y) ∧ Y.vals.length ≤ 14 ∧ Y.rows.length ≤ 15 ∧ Y.piv.length ≤ 5) := by
 refine E_fn Tryz.func84 rfl (Nat.le_of_ble_eq_true rfl) ?_
 refine E_G (n:=0) rfl ?_
 refine G_seq ?_
 refine G_region' (L:=[0,1]) rfl ?_
 refine x_alloc rfl rfl rfl rfl za_49 ?_
 refine xas ?_
 refine EOps_nil ?_
 refine G_seq ?_
 refine g_tidy_A121_3 [0,2,3] ?_
 refine G_region' (L:=[0,1,2]) rfl ?_
 refine xmv ?_
 refine EOps_go rfl rfl (xe1 rfl rfl rfl ca_110 (c_spec_l1New l _ hb) ?_)
 rintro r S ⟨h1,rfl,rfl⟩
 refine xas ?_
 refine EOps_nil ?_
 refine G_seq ?_
 refine G_drop [0,2,3,4] [1,0] rfl rfl rfl ?_
 refine g_tidy_A121_3 [0,2,3,4] ?_
 refine G_region' (L:=[0,1,2,3]) rfl ?_
 refine xmv ?_
 refine EOps_go rfl rfl (xe1 rfl rfl rfl ca_111 (c_spec_l4Any_a l 0 h1 hb (by unfold curOk;omega)) ?_)
 rintro r S ⟨Y,i2,h2,⟨rfl,rfl⟩,hi2,hyv,hyr,hyp⟩
 refine x_alloc rfl rfl rfl rfl za_49 ?_
 refine EOps_go rfl rfl (EOp_store rfl rfl rfl (xb1 ty_49) ?_)
 refine EOps_nil ?_
 refine G_seq ?_
 refine g_tidy_A121_3 [0,2,3,4,5] ?_
 refine G_drawU mixed ?_
 refine up_ 1 rfl (L_move rfl) ?_
 refine u_any 0 [2] ⟨?_,?_,trivial⟩
 ·refine u_op 0 rfl rfl (EOp_light rfl (by decide) (L_load rfl (xb3 ty_49)) ?_)
  refine u_any 2 [] ⟨?_,trivial⟩
  refine u_op 2 rfl rfl (EOp_light rfl (by decide) (L_load rfl (xb0 ty_49)) ?_)
  refine u_any 3 [] ⟨?_,trivial⟩
  refine u_op 3 rfl rfl (xe2 rfl rfl rfl ca_119 (c_spec_l4Value_aw2 l i2 h2 Y hb hi2 (by omega)) ?_)
  rintro r S ⟨x4,i4,h4,⟨rfl,rfl⟩,hi4⟩
  refine u_any 4 [] ⟨?_,trivial⟩
  refine u_op 4 rfl rfl (EOp_store rfl rfl rfl (xb1 ty_49) ?_)
  refine up_ 5 rfl (L_assign rfl) ?_
  refine u_done ?_
  refine G_ret ?_
  exact⟨_,[2,3,4],rfl,rfl,Y,x4,⟨rfl,rfl⟩,hyv,hyr,hyp⟩
 refine u_op 2 rfl rfl (EOp_light rfl (by decide) (L_load rfl (xb3 ty_49)) ?_)
 refine u_any 0 [3] ⟨?_,?_,trivial⟩
 ·refine u_op 0 rfl rfl (EOp_light rfl (by decide) (L_load rfl (xb3 ty_49)) ?_)
  refine u_any 3 [] ⟨?_,trivial⟩
  refine u_op 3 rfl rfl (xe2 rfl rfl rfl ca_119 (c_spec_l4Value_aw2 l i2 h2 Y hb hi2 (by omega)) ?_)
  rintro r S ⟨x4,i4,h4,⟨rfl,rfl⟩,hi4⟩
  refine u_any 4 [] ⟨?_,trivial⟩
  refine u_op 4 rfl rfl (EOp_store rfl rfl rfl (xb1 ty_49) ?_)
  refine up_ 5 rfl (L_assign rfl) ?_
  refine u_done ?_
  refine G_ret ?_
  exact⟨_,[2,3,4],rfl,rfl,Y,x4,⟨rfl,rfl⟩,hyv,hyr,hyp⟩
 refine u_op 3 rfl rfl (xe2 rfl rfl rfl ca_119 (c_spec_l4Value_aw2 l i2 h2 Y hb hi2 (by omega)) ?_)
 rintro r S ⟨x4,i4,h4,⟨rfl,rfl⟩,hi4⟩
 refine u_any 0 [] ⟨?_,trivial⟩
 refine u_op 0 rfl rfl (EOp_light rfl (by decide) (L_load rfl (xb0 ty_49)) ?_)
 refine u_any 4 [] ⟨?_,trivial⟩
 refine u_op 4 rfl rfl (EOp_store rfl rfl rfl (xb1 ty_49) ?_)
 refine up_ 5 rfl (L_assign rfl) ?_
 refine u_done ?_
 refine G_ret ?_
 exact⟨_,[2,3,4],rfl,rfl,Y,x4,⟨rfl,rfl⟩,hyv,hyr,hyp⟩

set_option maxRecDepth 20000 in
set_option maxHeartbeats 4000000 in
theorem c_spec_DrawSortSmall (l : List Int) (hb : byL l) : EFn Tryz.prog 82 [.c (.ro (bytes l))] [] (fun r S => ∃ (Y : Crk) (v : Int), (r = .tup [(true, crkO 0 Y), (false, [.sc (.int .i64 v)])] ∧ S = crkR 3 151 Y) ∧ Y.vals.length ≤ 14 ∧ Y.rows.length ≤ 15 ∧ Y.piv.length ≤ 5) := by
 refine E_fn Tryz.func82 rfl (Nat.le_of_ble_eq_true rfl) ?_
 refine E_G (n:=0) rfl ?_
 refine G_seq ?_
 refine G_region' (L:=[0,1]) rfl ?_
 refine x_alloc rfl rfl rfl rfl za_49 ?_
 refine xas ?_
 refine EOps_nil ?_
 refine G_seq ?_
 refine g_tidy_A121_3 [0,2,3] ?_
 refine G_region' (L:=[0,1,2]) rfl ?_
 refine xmv ?_
 refine EOps_go rfl rfl (xe1 rfl rfl rfl ca_110 (c_spec_l1New l _ hb) ?_)
 rintro r S ⟨h1,rfl,rfl⟩
 refine xas ?_
 refine EOps_nil ?_
 refine G_seq ?_
 refine G_drop [0,2,3,4] [1,0] rfl rfl rfl ?_
 refine g_tidy_A121_3 [0,2,3,4] ?_
 refine G_region' (L:=[0,1,2,3]) rfl ?_
 refine xmv ?_
 refine EOps_go rfl rfl (xe1 rfl rfl rfl ca_111 (c_spec_l4Any_a l 0 h1 hb (by unfold curOk;omega)) ?_)
 rintro r S ⟨Y,i2,h2,⟨rfl,rfl⟩,hi2,hyv,hyr,hyp⟩
 refine x_alloc rfl rfl rfl rfl za_49 ?_
 refine EOps_go rfl rfl (EOp_store rfl rfl rfl (xb1 ty_49) ?_)
 refine EOps_nil ?_
 refine G_seq ?_
 refine g_tidy_A121_3 [0,2,3,4,5] ?_
 refine G_drawU mixed ?_
 refine up_ 1 rfl (L_move rfl) ?_
 refine u_any 0 [2] ⟨?_,?_,trivial⟩
 ·refine u_op 0 rfl rfl (EOp_light rfl (by decide) (L_load rfl (xb3 ty_49)) ?_)
  refine u_any 2 [] ⟨?_,trivial⟩
  refine u_op 2 rfl rfl (Heavy.op (H_bslice rfl rfl (by decide) sl_22 ty_3 za_3 ⟨rfl,by decide⟩ (by decide) rfl rfl rfl rfl ?_))
  refine u_any 3 [] ⟨?_,trivial⟩
  refine u_op 3 rfl rfl (xe2 rfl rfl rfl ca_168 (c_spec_l1PickInt l i2 h2 _ 5 [-1,0,1,3,64] 5 hb hi2 (by decide) rfl rfl) ?_)
  rintro r S ⟨x4,i4,h4,⟨rfl,rfl⟩,hi4,hx4⟩
  refine u_any 4 [] ⟨?_,trivial⟩
  refine u_op 4 rfl rfl (EOp_store rfl rfl rfl (xb1 ty_49) ?_)
  refine up_ 5 rfl (L_assign rfl) ?_
  refine u_done ?_
  refine G_ret ?_
  exact⟨_,[2,3,4],rfl,rfl,Y,x4,⟨rfl,rfl⟩,hyv,hyr,hyp⟩
 refine u_op 2 rfl rfl (Heavy.op (H_bslice rfl rfl (by decide) sl_22 ty_3 za_3 ⟨rfl, by decide⟩ (by decide) rfl rfl rfl rfl ?_))
 refine u_any 0 [3] ⟨?_,?_,trivial⟩
 ·refine u_op 0 rfl rfl (EOp_light rfl (by decide) (L_load rfl (xb3 ty_49)) ?_)
  refine u_any 3 [] ⟨?_,trivial⟩
  refine u_op 3 rfl rfl (xe2 rfl rfl rfl ca_168 (c_spec_l1PickInt l i2 h2 _ 5 [-1,0,1,3,64] 5 hb hi2 (by decide) rfl rfl) ?_)
  rintro r S ⟨x4,i4,h4,⟨rfl,rfl⟩,hi4,hx4⟩
  refine u_any 4 [] ⟨?_,trivial⟩
  refine u_op 4 rfl rfl (EOp_store rfl rfl rfl (xb1 ty_49) ?_)
  refine up_ 5 rfl (L_assign rfl) ?_
  refine u_done ?_
  refine G_ret ?_
  exact⟨_,[2,3,4],rfl,rfl,Y,x4,⟨rfl,rfl⟩,hyv,hyr,hyp⟩
 refine u_op 3 rfl rfl (xe2 rfl rfl rfl ca_168 (c_spec_l1PickInt l i2 h2 _ 5 [-1, 0, 1, 3, 64] 5 hb hi2 (by decide) rfl rfl) ?_)
 rintro r S ⟨x4,i4,h4,⟨rfl,rfl⟩,hi4,hx4⟩
 refine u_any 0 [] ⟨?_,trivial⟩
 refine u_op 0 rfl rfl (EOp_light rfl (by decide) (L_load rfl (xb0 ty_49)) ?_)
 refine u_any 4 [] ⟨?_,trivial⟩
 refine u_op 4 rfl rfl (EOp_store rfl rfl rfl (xb1 ty_49) ?_)
 refine up_ 5 rfl (L_assign rfl) ?_
 refine u_done ?_
 refine G_ret ?_
 exact⟨_,[2,3,4],rfl,rfl,Y,x4,⟨rfl,rfl⟩,hyv,hyr,hyp⟩

set_option maxRecDepth 20000 in
set_option maxHeartbeats 4000000 in
theorem c_spec_DrawSortedRange (l : List Int) (hb : byL l) : EFn Tryz.prog 77 [.c (.ro (bytes l))] [] (fun r S => ∃ (Y : Crk) (x : Int × Int), (r = .tup [(true, crkO 0 Y), (true, [.sc (.int .i64 x.1), .sc (.int .i64 x.2)])] ∧ S = crkR 3 151 Y) ∧ Y.vals.length ≤ 14 ∧ Y.rows.length ≤ 15 ∧ Y.piv.length ≤ 5) := by
 refine E_fn Tryz.func77 rfl (Nat.le_of_ble_eq_true rfl) ?_
 refine E_G (n:=0) rfl ?_
 refine G_seq ?_
 refine G_region' (L:=[0,1]) rfl ?_
 refine x_alloc rfl rfl rfl rfl za_49 ?_
 refine x_alloc rfl rfl rfl rfl za_53 ?_
 refine EOps_nil ?_
 refine G_seq ?_
 refine g_tidy_A121_3 [0,2,3] ?_
 refine G_region' (L:=[0,1,2]) rfl ?_
 refine xmv ?_
 refine EOps_go rfl rfl (xe1 rfl rfl rfl ca_110 (c_spec_l1New l _ hb) ?_)
 rintro r S ⟨h1,rfl,rfl⟩
 refine xas ?_
 refine EOps_nil ?_
 refine G_seq ?_
 refine G_drop [0,2,3,4] [2,0,1] rfl rfl rfl ?_
 refine g_tidy_A121_3 [0,2,3,4] ?_
 refine G_region' (L:=[0,1,2,3]) rfl ?_
 refine xmv ?_
 refine EOps_go rfl rfl (xe1 rfl rfl rfl ca_111 (c_spec_l4Any_b l 0 h1 hb (by unfold curOk;omega)) ?_)
 rintro r S ⟨Y,i2,h2,⟨rfl,rfl⟩,hi2,hyv,hyr,hyp⟩
 refine x_alloc rfl rfl rfl rfl za_49 ?_
 refine EOps_go rfl rfl (EOp_store rfl rfl rfl (xb1 ty_49) ?_)
 refine EOps_nil ?_
 refine G_seq ?_
 refine g_tidy_A121_3 [0,2,3,4,5] ?_
 refine G_drawU mixed ?_
 refine up_ 1 rfl (L_move rfl) ?_
 refine u_any 0 [2] ⟨?_,?_,trivial⟩
 ·refine u_op 0 rfl rfl (EOp_light rfl (by decide) (L_load rfl (xb3 ty_49)) ?_)
  refine u_any 2 [] ⟨?_,trivial⟩
  refine u_op 2 rfl rfl (EOp_light rfl (by decide) (L_load rfl (xb0 ty_49)) ?_)
  refine u_any 3 [] ⟨?_,trivial⟩
  refine u_op 3 rfl rfl (xe2 rfl rfl rfl ca_113 (c_spec_l6Range_br l i2 h2 Y hb hi2 (by omega)) ?_)
  rintro r S ⟨a,b,i4,h4,⟨rfl,rfl⟩,hi4⟩
  refine u_any 4 [] ⟨?_,trivial⟩
  refine u_op 4 rfl rfl (EOp_store rfl rfl rfl (xb1 ty_49) ?_)
  refine u_any 5 [] ⟨?_,trivial⟩
  refine u_op 5 rfl rfl (EOp_store rfl rfl rfl (xb1 ty_53) ?_)
  refine u_done ?_
  refine G_ret ?_
  exact⟨_,[3,4,5],rfl,rfl,Y,(a,b),⟨rfl,rfl⟩,hyv,hyr,hyp⟩
 refine u_op 2 rfl rfl (EOp_light rfl (by decide) (L_load rfl (xb3 ty_49)) ?_)
 refine u_any 0 [3] ⟨?_,?_,trivial⟩
 ·refine u_op 0 rfl rfl (EOp_light rfl (by decide) (L_load rfl (xb3 ty_49)) ?_)
  refine u_any 3 [] ⟨?_,trivial⟩
  refine u_op 3 rfl rfl (xe2 rfl rfl rfl ca_113 (c_spec_l6Range_br l i2 h2 Y hb hi2 (by omega)) ?_)
  rintro r S ⟨a,b,i4,h4,⟨rfl,rfl⟩,hi4⟩
  refine u_any 4 [] ⟨?_,trivial⟩
  refine u_op 4 rfl rfl (EOp_store rfl rfl rfl (xb1 ty_49) ?_)
  refine u_any 5 [] ⟨?_,trivial⟩
  refine u_op 5 rfl rfl (EOp_store rfl rfl rfl (xb1 ty_53) ?_)
  refine u_done ?_
  refine G_ret ?_
  exact⟨_,[3,4,5],rfl,rfl,Y,(a,b),⟨rfl,rfl⟩,hyv,hyr,hyp⟩
 refine u_op 3 rfl rfl (xe2 rfl rfl rfl ca_113 (c_spec_l6Range_br l i2 h2 Y hb hi2 (by omega)) ?_)
 rintro r S ⟨a,b,i4,h4,⟨rfl,rfl⟩,hi4⟩
 refine u_any 0 [] ⟨?_,trivial⟩
 refine u_op 0 rfl rfl (EOp_light rfl (by decide) (L_load rfl (xb0 ty_49)) ?_)
 refine u_any 4 [] ⟨?_,trivial⟩
 refine u_op 4 rfl rfl (EOp_store rfl rfl rfl (xb1 ty_49) ?_)
 refine u_any 5 [] ⟨?_,trivial⟩
 refine u_op 5 rfl rfl (EOp_store rfl rfl rfl (xb1 ty_53) ?_)
 refine u_done ?_
 refine G_ret ?_
 exact⟨_,[3,4,5],rfl,rfl,Y,(a,b),⟨rfl,rfl⟩,hyv,hyr,hyp⟩

end Go.Proofs.YtlodlnbhjghjoaaGreat.E
