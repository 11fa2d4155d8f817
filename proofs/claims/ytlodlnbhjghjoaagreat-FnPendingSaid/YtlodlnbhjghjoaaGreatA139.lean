/- Walks through functions, by program out of the session's annotations. -/
import Derived.Test.YtlodlnbhjghjoaaGreatA136
namespace Go.Proofs.YtlodlnbhjghjoaaGreat.E
open Go Go.RowKit Go.Proofs
set_option linter.unusedVariables false
set_option linter.unusedSimpArgs false

set_option maxRecDepth 20000 in
set_option maxHeartbeats 4000000 in
theorem c_spec_l4Value_erv (l : List Int) (i h : Int) (Y : Crk) (p : Pnd) (hb : byL l) (hi : curOk l i) (hX : Y.vals.length ≤ 100000) : EFn Tryz.prog 119 [.c (.bp 0 0), .agg (crkO 4 Y)] [.box (curC l i h), .box [.sc (.slice none 0 0), .sc (.slice none 0 0), .sc (.slice none 0 0)], .box [.sc (.slice none 0 0), .sc (.slice none 0 0)], .box [.sc (.int .i64 0), .sc (.int .i64 0)], .row 3 1 (ints Y.vals), .row 3 1 (ints Y.rows), .row 151 2 (pairs Y.piv), .box (crkO 4 Y), .row 104 2 (pairs p.ins), .row 3 1 (ints p.del), .box (pndO 8 p), .box (crkO 4 Y), .box [.sc (.int .i64 0), .sc (.int .i64 0)]] (fun r S => ∃ (v i' h' : Int), (r = .c (.sc (.int .i64 v)) ∧ S = [.box (curC l i' h'), .box [.sc (.slice none 0 0), .sc (.slice none 0 0), .sc (.slice none 0 0)], .box [.sc (.slice none 0 0), .sc (.slice none 0 0)], .box [.sc (.int .i64 0), .sc (.int .i64 0)], .row 3 1 (ints Y.vals), .row 3 1 (ints Y.rows), .row 151 2 (pairs Y.piv), .box (crkO 4 Y), .row 104 2 (pairs p.ins), .row 3 1 (ints p.del), .box (pndO 8 p), .box (crkO 4 Y), .box [.sc (.int .i64 0), .sc (.int .i64 0)]]) ∧ curOk l i') := by
 refine E_fn Tryz.func119 rfl (Nat.le_of_ble_eq_true rfl) ?_
 refine E_seq ?_
 refine E_region' (L:=[0,1]) rfl ?_
 refine x_box rfl rfl rfl rfl rfl ?_
 refine xas ?_
 refine EOps_nil ?_
 refine E_seq ?_
 refine E_seq ?_
 refine e_tidy_A136_2 [0,1,3,4] ?_
 refine E_region' (L:=[0,1,2,3,4,5,6,7,8]) rfl ?_
 refine p_ rfl (l_field rfl fo_49_0) ?_
 refine l_ rfl (L_load rfl (xb0 ty_22)) ?_
 refine p_ rfl (l_len rfl sl_22) ?_
 refine p_ rfl (L_bin rfl rfl rfl rfl) ?_
 refine xmv ?_
 refine EOps_split 9 (b:=_) rfl (fun hg9=>?_) (fun hg9=>?_)
 ·have hn0 : 0 < Y.vals.length := by simp at hg9; omega
  refine xmv ?_
  refine EOps_go rfl rfl (xe2 rfl rfl rfl ca_185 (c_spec_l1Once l i h 4 _ hb hi (by decide)) ?_)
  rintro r S ⟨b1,i1,h1,⟨rfl,rfl⟩,hi1⟩
  refine p_ rfl (L_not rfl rfl) ?_
  refine p_ rfl (L_pick rfl rfl) ?_
  refine EOps_nil ?_
  refine E_cond rfl (fun hc13=>?_) (fun hc13=>?_)
  ·refine E_seq ?_
   refine e_tidy_A136_2 [0,1,3,4,13] ?_
   refine E_drawU mixed ?_
   refine up_ 0 rfl (l_field rfl fo_49_0) ?_
   refine up_ 2 rfl (L_move rfl) ?_
   refine up_ 3 rfl (l_field rfl fo_49_0) ?_
   refine up_ 9 rfl (L_move rfl) ?_
   refine u_any 1 [4] ⟨?_,?_,trivial⟩
   ·refine u_op 1 rfl rfl (EOp_light rfl (by decide) (L_load rfl (xb3 ty_22)) ?_)
    refine u_any 4 [] ⟨?_,trivial⟩
    refine u_op 4 rfl rfl (EOp_light rfl (by decide) (L_load rfl (xb0 ty_22)) ?_)
    refine up_ 5 rfl (l_len rfl sl_22) ?_
    refine u_any 6 [] ⟨?_,trivial⟩
    refine u_op 6 rfl rfl (xe2 rfl rfl rfl ca_183 (c_spec_l1Below l i1 h1 (Y.vals.length:Int) _ hb hi1 (by omega)) ?_)
    rintro r S ⟨x2,i2,h2,⟨rfl,rfl⟩,hi2,hx2⟩
    obtain⟨kk,rfl⟩:∃ kk:Nat,x2=(kk:Int):=⟨x2.toNat,by omega⟩
    have hk1:kk<Y.vals.length:=by have:=hx2.2.1 (by omega);omega
    obtain⟨y,hy⟩:=at_lt (l:=Y.vals) hk1
    refine up_ 7 rfl (L_index rfl rfl (xii sl_22 ty_3)) ?_
    refine u_any 8 [10] ⟨?_,?_,trivial⟩
    ·refine u_op 8 rfl rfl (EOp_light rfl (by decide) (L_load rfl (xb3 ty_3)) ?_)
     refine u_any 10 [] ⟨?_,trivial⟩
     refine u_op 10 rfl rfl (xe2 rfl rfl rfl ca_183 (c_spec_l1Below l i2 h2 3 _ hb hi2 (by decide)) ?_)
     rintro r S ⟨x3,i3,h3,⟨rfl,rfl⟩,hi3,hx3⟩
     refine up_ 11 rfl xb2 ?_
     refine up_ 12 rfl xb5 ?_
     refine up_ 13 rfl (L_assign rfl) ?_
     refine u_done ?_
     refine E_ret ?_
     first
      | exact⟨_,[],rfl,rfl,_,i3,h3,⟨rfl,rfl⟩,hi3⟩
      | exact⟨_,[],rfl,rfl,_,i4,h4,⟨rfl,rfl⟩,hi4⟩
    refine u_op 10 rfl rfl (xe2 rfl rfl rfl ca_183 (c_spec_l1Below l i2 h2 3 _ hb hi2 (by decide)) ?_)
    rintro r S ⟨x3,i3,h3,⟨rfl,rfl⟩,hi3,hx3⟩
    refine u_any 8 [] ⟨?_,trivial⟩
    refine u_op 8 rfl rfl (EOp_light rfl (by decide) (L_load rfl (xb0 ty_3)) ?_)
    refine up_ 11 rfl xb2 ?_
    refine up_ 12 rfl xb5 ?_
    refine up_ 13 rfl (L_assign rfl) ?_
    refine u_done ?_
    refine E_ret ?_
    first
     | exact⟨_,[],rfl,rfl,_,i3,h3,⟨rfl,rfl⟩,hi3⟩
     | exact⟨_,[],rfl,rfl,_,i4,h4,⟨rfl,rfl⟩,hi4⟩
   refine u_op 4 rfl rfl (EOp_light rfl (by decide) (L_load rfl (xb3 ty_22)) ?_)
   refine up_ 5 rfl (l_len rfl sl_22) ?_
   refine u_any 1 [6] ⟨?_,?_,trivial⟩
   ·refine u_op 1 rfl rfl (EOp_light rfl (by decide) (L_load rfl (xb3 ty_22)) ?_)
    refine u_any 6 [] ⟨?_,trivial⟩
    refine u_op 6 rfl rfl (xe2 rfl rfl rfl ca_183 (c_spec_l1Below l i1 h1 (Y.vals.length:Int) _ hb hi1 (by omega)) ?_)
    rintro r S ⟨x2,i2,h2,⟨rfl,rfl⟩,hi2,hx2⟩
    obtain⟨kk,rfl⟩:∃ kk:Nat,x2=(kk:Int):=⟨x2.toNat,by omega⟩
    have hk1:kk<Y.vals.length:=by have:=hx2.2.1 (by omega);omega
    obtain⟨y,hy⟩:=at_lt (l:=Y.vals) hk1
    refine up_ 7 rfl (L_index rfl rfl (xii sl_22 ty_3)) ?_
    refine u_any 8 [10] ⟨?_,?_,trivial⟩
    ·refine u_op 8 rfl rfl (EOp_light rfl (by decide) (L_load rfl (xb3 ty_3)) ?_)
     refine u_any 10 [] ⟨?_,trivial⟩
     refine u_op 10 rfl rfl (xe2 rfl rfl rfl ca_183 (c_spec_l1Below l i2 h2 3 _ hb hi2 (by decide)) ?_)
     rintro r S ⟨x3,i3,h3,⟨rfl,rfl⟩,hi3,hx3⟩
     refine up_ 11 rfl xb2 ?_
     refine up_ 12 rfl xb5 ?_
     refine up_ 13 rfl (L_assign rfl) ?_
     refine u_done ?_
     refine E_ret ?_
     first
      | exact⟨_,[],rfl,rfl,_,i3,h3,⟨rfl,rfl⟩,hi3⟩
      | exact⟨_,[],rfl,rfl,_,i4,h4,⟨rfl,rfl⟩,hi4⟩
    refine u_op 10 rfl rfl (xe2 rfl rfl rfl ca_183 (c_spec_l1Below l i2 h2 3 _ hb hi2 (by decide)) ?_)
    rintro r S ⟨x3,i3,h3,⟨rfl,rfl⟩,hi3,hx3⟩
    refine u_any 8 [] ⟨?_,trivial⟩
    refine u_op 8 rfl rfl (EOp_light rfl (by decide) (L_load rfl (xb0 ty_3)) ?_)
    refine up_ 11 rfl xb2 ?_
    refine up_ 12 rfl xb5 ?_
    refine up_ 13 rfl (L_assign rfl) ?_
    refine u_done ?_
    refine E_ret ?_
    first
     | exact⟨_,[],rfl,rfl,_,i3,h3,⟨rfl,rfl⟩,hi3⟩
     | exact⟨_,[],rfl,rfl,_,i4,h4,⟨rfl,rfl⟩,hi4⟩
   refine u_op 6 rfl rfl (xe2 rfl rfl rfl ca_183 (c_spec_l1Below l i1 h1 (Y.vals.length : Int) _ hb hi1 (by omega)) ?_)
   rintro r S ⟨x2,i2,h2,⟨rfl,rfl⟩,hi2,hx2⟩
   obtain⟨kk,rfl⟩:∃ kk:Nat,x2=(kk:Int):=⟨x2.toNat,by omega⟩
   have hk1:kk<Y.vals.length:=by have:=hx2.2.1 (by omega);omega
   obtain⟨y,hy⟩:=at_lt (l:=Y.vals) hk1
   refine u_any 1 [10] ⟨?_,?_,trivial⟩
   ·refine u_op 1 rfl rfl (EOp_light rfl (by decide) (L_load rfl (xb3 ty_22)) ?_)
    refine up_ 7 rfl (L_index rfl rfl (xii sl_22 ty_3)) ?_
    refine u_any 8 [10] ⟨?_,?_,trivial⟩
    ·refine u_op 8 rfl rfl (EOp_light rfl (by decide) (L_load rfl (xb3 ty_3)) ?_)
     refine u_any 10 [] ⟨?_,trivial⟩
     refine u_op 10 rfl rfl (xe2 rfl rfl rfl ca_183 (c_spec_l1Below l i2 h2 3 _ hb hi2 (by decide)) ?_)
     rintro r S ⟨x3,i3,h3,⟨rfl,rfl⟩,hi3,hx3⟩
     refine up_ 11 rfl xb2 ?_
     refine up_ 12 rfl xb5 ?_
     refine up_ 13 rfl (L_assign rfl) ?_
     refine u_done ?_
     refine E_ret ?_
     first
      | exact⟨_,[],rfl,rfl,_,i3,h3,⟨rfl,rfl⟩,hi3⟩
      | exact⟨_,[],rfl,rfl,_,i4,h4,⟨rfl,rfl⟩,hi4⟩
    refine u_op 10 rfl rfl (xe2 rfl rfl rfl ca_183 (c_spec_l1Below l i2 h2 3 _ hb hi2 (by decide)) ?_)
    rintro r S ⟨x3,i3,h3,⟨rfl,rfl⟩,hi3,hx3⟩
    refine u_any 8 [] ⟨?_,trivial⟩
    refine u_op 8 rfl rfl (EOp_light rfl (by decide) (L_load rfl (xb0 ty_3)) ?_)
    refine up_ 11 rfl xb2 ?_
    refine up_ 12 rfl xb5 ?_
    refine up_ 13 rfl (L_assign rfl) ?_
    refine u_done ?_
    refine E_ret ?_
    first
     | exact⟨_,[],rfl,rfl,_,i3,h3,⟨rfl,rfl⟩,hi3⟩
     | exact⟨_,[],rfl,rfl,_,i4,h4,⟨rfl,rfl⟩,hi4⟩
   refine u_op 10 rfl rfl (xe2 rfl rfl rfl ca_183 (c_spec_l1Below l i2 h2 3 _ hb hi2 (by decide)) ?_)
   rintro r S ⟨x3,i3,h3,⟨rfl,rfl⟩,hi3,hx3⟩
   refine u_any 1 [] ⟨?_,trivial⟩
   refine u_op 1 rfl rfl (EOp_light rfl (by decide) (L_load rfl (xb0 ty_22)) ?_)
   refine up_ 7 rfl (L_index rfl rfl (xii sl_22 ty_3)) ?_
   refine u_any 8 [] ⟨?_,trivial⟩
   refine u_op 8 rfl rfl (EOp_light rfl (by decide) (L_load rfl (xb0 ty_3)) ?_)
   refine up_ 11 rfl xb2 ?_
   refine up_ 12 rfl xb5 ?_
   refine up_ 13 rfl (L_assign rfl) ?_
   refine u_done ?_
   refine E_ret ?_
   first
    | exact⟨_,[],rfl,rfl,_,i3,h3,⟨rfl,rfl⟩,hi3⟩
    | exact⟨_,[],rfl,rfl,_,i4,h4,⟨rfl,rfl⟩,hi4⟩
  refine E_skip ?_
  refine E_seq ?_
  refine e_tidy_A136_2 [0,1,3,4,13] ?_
  refine E_region' (L:=[0,1,2,3]) rfl ?_
  refine xmv ?_
  refine EOps_go rfl rfl (Heavy.op (H_bslice rfl rfl (by decide) sl_22 ty_3 za_3 ⟨rfl,by decide⟩ (by decide) rfl rfl rfl rfl ?_))
  refine EOps_go rfl rfl (xe2 rfl rfl rfl ca_168 (c_spec_l1PickInt l _ _ _ 13 [0,3,-2,-1000,1000,50] 6 hb (by assumption) (by decide) rfl rfl) ?_)
  rintro r S ⟨x4,i4,h4,⟨rfl,rfl⟩,hi4,hx4⟩
  refine xas ?_
  refine EOps_nil ?_
  refine E_ret ?_
  first
   | exact⟨_,[],rfl,rfl,_,i3,h3,⟨rfl,rfl⟩,hi3⟩
   | exact⟨_,[],rfl,rfl,_,i4,h4,⟨rfl,rfl⟩,hi4⟩
 refine s_ rfl ?_
 refine s_ rfl ?_
 refine s_ rfl ?_
 refine p_ rfl (L_pick rfl rfl) ?_
 refine EOps_nil ?_
 refine E_cond rfl (fun hc13=>?_) (fun hc13=>?_)
 ·exact Bool.noConfusion (hc13:false=true)
 refine E_skip ?_
 refine E_seq ?_
 refine e_tidy_A136_2 [0,1,3,4,13] ?_
 refine E_region' (L:=[0,1,2,3]) rfl ?_
 refine xmv ?_
 refine EOps_go rfl rfl (Heavy.op (H_bslice rfl rfl (by decide) sl_22 ty_3 za_3 ⟨rfl,by decide⟩ (by decide) rfl rfl rfl rfl ?_))
 refine EOps_go rfl rfl (xe2 rfl rfl rfl ca_168 (c_spec_l1PickInt l _ _ _ 13 [0,3,-2,-1000,1000,50] 6 hb (by assumption) (by decide) rfl rfl) ?_)
 rintro r S ⟨x4,i4,h4,⟨rfl,rfl⟩,hi4,hx4⟩
 refine xas ?_
 refine EOps_nil ?_
 refine E_ret ?_
 first
  | exact⟨_,[],rfl,rfl,_,i3,h3,⟨rfl,rfl⟩,hi3⟩
  | exact⟨_,[],rfl,rfl,_,i4,h4,⟨rfl,rfl⟩,hi4⟩

set_option maxRecDepth 20000 in
set_option maxHeartbeats 4000000 in
theorem c_spec_l3Range_err (l : List Int) (i h : Int) (Y : Crk) (p : Pnd) (hb : byL l) (hi : curOk l i) : EFn Tryz.prog 218 [.c (.bp 0 0)] [.box (curC l i h), .box [.sc (.slice none 0 0), .sc (.slice none 0 0), .sc (.slice none 0 0)], .box [.sc (.slice none 0 0), .sc (.slice none 0 0)], .box [.sc (.int .i64 0), .sc (.int .i64 0)], .row 3 1 (ints Y.vals), .row 3 1 (ints Y.rows), .row 151 2 (pairs Y.piv), .box (crkO 4 Y), .row 104 2 (pairs p.ins), .row 3 1 (ints p.del), .box (pndO 8 p), .box (crkO 4 Y), .box [.sc (.int .i64 0), .sc (.int .i64 0)], .box [.sc (.int .i64 0), .sc (.int .i64 0)]] (fun r S => ∃ (a b i' h' : Int), (r = .agg [.sc (.int .i64 a), .sc (.int .i64 b)] ∧ S = [.box (curC l i' h'), .box [.sc (.slice none 0 0), .sc (.slice none 0 0), .sc (.slice none 0 0)], .box [.sc (.slice none 0 0), .sc (.slice none 0 0)], .box [.sc (.int .i64 0), .sc (.int .i64 0)], .row 3 1 (ints Y.vals), .row 3 1 (ints Y.rows), .row 151 2 (pairs Y.piv), .box (crkO 4 Y), .row 104 2 (pairs p.ins), .row 3 1 (ints p.del), .box (pndO 8 p), .box (crkO 4 Y), .box [.sc (.int .i64 0), .sc (.int .i64 0)], .box [.sc (.int .i64 0), .sc (.int .i64 0)]]) ∧ curOk l i') := by
 refine E_fn Tryz.func218 rfl (Nat.le_of_ble_eq_true rfl) ?_
 refine E_seq ?_
 refine E_region' (L:=[0]) rfl ?_
 refine x_alloc rfl rfl rfl rfl za_53 ?_
 refine EOps_nil ?_
 refine E_seq ?_
 refine e_tidy_A136_2 [0,2] ?_
 refine E_region' (L:=[0,1,2,3]) rfl ?_
 refine xmv ?_
 refine EOps_go rfl rfl (Heavy.op (H_bslice rfl rfl (by decide) sl_22 ty_3 za_3 ⟨rfl,by decide⟩ (by decide) rfl rfl rfl rfl ?_))
 refine EOps_go rfl rfl (xe2 rfl rfl rfl ca_168 (c_spec_l1PickInt l i h _ 14 [3,10,30,1000] 4 hb hi (by decide) rfl rfl) ?_)
 rintro r S ⟨w,i1,h1,⟨rfl,rfl⟩,hi1,hw⟩
 have hw':0<w∧w≤1000:=by simp at hw;omega
 refine xas ?_
 refine EOps_nil ?_
 refine E_seq ?_
 refine e_tidy_A136_2 [0,2,3] ?_
 refine E_region' (L:=[0,1,2,3,4,5,6]) rfl ?_
 refine xmv ?_
 refine xmv ?_
 refine EOps_go rfl rfl (xe2 rfl rfl rfl ca_183 (c_spec_l1Below l i1 h1 w _ hb hi1 (by omega)) ?_)
 rintro r S ⟨x2,i2,h2,⟨rfl,rfl⟩,hi2,hx2⟩
 refine xmv ?_
 refine p_ rfl (L_quo rfl rfl rfl (by omega)) ?_
 refine p_ rfl xb5 ?_
 refine xas ?_
 refine EOps_nil ?_
 refine E_seq ?_
 refine e_tidy_A136_2 [0,2,3,4] ?_
 refine E_region' (L:=[0,1,2,3,4,5,6,7,8]) rfl ?_
 refine xmv ?_
 refine xmv ?_
 refine xmv ?_
 refine xmv ?_
 refine EOps_go rfl rfl (xe2 rfl rfl rfl ca_183 (c_spec_l1Below l i2 h2 w _ hb hi2 (by omega)) ?_)
 rintro r S ⟨x3,i3,h3,⟨rfl,rfl⟩,hi3,hx3⟩
 refine p_ rfl xb2 ?_
 refine p_ rfl (L_min rfl rfl rfl) ?_
 refine p_ rfl (L_build rfl bd_53 rfl rfl) ?_
 refine EOps_go rfl rfl (EOp_store rfl rfl rfl (xb1 ty_53) ?_)
 refine EOps_nil ?_
 refine E_ret ?_
 exact⟨_,[],rfl,rfl,_,_,i3,h3,⟨rfl,rfl⟩,hi3⟩

set_option maxRecDepth 20000 in
set_option maxHeartbeats 4000000 in
theorem c_spec_l3Any_ert (l : List Int) (i h : Int) (Y : Crk) (p : Pnd) (hb : byL l) (hi : curOk l i) : EFn Tryz.prog 186 [.c (.bp 0 0)] [.box (curC l i h), .box [.sc (.slice none 0 0), .sc (.slice none 0 0), .sc (.slice none 0 0)], .box [.sc (.slice none 0 0), .sc (.slice none 0 0)], .box [.sc (.int .i64 0), .sc (.int .i64 0)], .row 3 1 (ints Y.vals), .row 3 1 (ints Y.rows), .row 151 2 (pairs Y.piv), .box (crkO 4 Y), .row 104 2 (pairs p.ins), .row 3 1 (ints p.del), .box (pndO 8 p), .box (crkO 4 Y), .box [.sc (.int .i64 0), .sc (.int .i64 0)]] (fun r S => ∃ (a b i' h' : Int), (r = .agg [.sc (.int .i64 a), .sc (.int .i64 b)] ∧ S = [.box (curC l i' h'), .box [.sc (.slice none 0 0), .sc (.slice none 0 0), .sc (.slice none 0 0)], .box [.sc (.slice none 0 0), .sc (.slice none 0 0)], .box [.sc (.int .i64 0), .sc (.int .i64 0)], .row 3 1 (ints Y.vals), .row 3 1 (ints Y.rows), .row 151 2 (pairs Y.piv), .box (crkO 4 Y), .row 104 2 (pairs p.ins), .row 3 1 (ints p.del), .box (pndO 8 p), .box (crkO 4 Y), .box [.sc (.int .i64 0), .sc (.int .i64 0)]]) ∧ curOk l i') := by
 refine E_fn Tryz.func186 rfl (Nat.le_of_ble_eq_true rfl) ?_
 refine E_seq ?_
 refine E_region' (L:=[0]) rfl ?_
 refine x_alloc rfl rfl rfl rfl za_53 ?_
 refine EOps_nil ?_
 refine E_seq ?_
 refine e_tidy_A136_2 [0,2] ?_
 refine E_region' (L:=[0,1,2,3]) rfl ?_
 refine xmv ?_
 refine EOps_go rfl rfl (xe1 rfl rfl rfl ca_218 (c_spec_l3Range_err l i h Y p hb hi) ?_)
 rintro r S ⟨u,v,i1,h1,⟨rfl,rfl⟩,hi1⟩
 refine x_alloc rfl rfl rfl rfl za_53 ?_
 refine EOps_go rfl rfl (EOp_store rfl rfl rfl (xb1 ty_53) ?_)
 refine EOps_nil ?_
 refine E_seq ?_
 refine E_seq ?_
 refine e_tidy_A136_2 [0,2,3] ?_
 refine E_region' (L:=[0,1]) rfl ?_
 refine xmv ?_
 refine EOps_go rfl rfl (xe2 rfl rfl rfl ca_183 (c_spec_l1Below l i1 h1 10 _ hb hi1 (by decide)) ?_)
 rintro r S ⟨x2,i2,h2,⟨rfl,rfl⟩,hi2,hx2⟩
 refine EOps_nil ?_
 refine E_block ?_
 refine E_seq ?_
 refine E_region' (L:=[0,1]) rfl ?_
 refine p_ rfl (L_bin rfl rfl rfl rfl) ?_
 refine xas ?_
 refine EOps_nil ?_
 refine E_cond rfl (fun hc8=>?_) (fun hc8=>?_)
 ·refine e_tidy_A136_2 [0, 2, 3, 7, 8] ?_
  refine E_region' (L:=[0,1,2,3,4]) rfl ?_
  refine xmv ?_
  refine EOps_go rfl rfl (Heavy.op (H_bslice rfl rfl (by decide) sl_22 ty_3 za_3 ⟨rfl,by decide⟩ (by decide) rfl rfl rfl rfl ?_))
  refine EOps_go rfl rfl (xe2 rfl rfl rfl ca_168 (c_spec_l1PickInt l i2 h2 _ 14 [-1001,-1000,1000,1001] 4 hb hi2 (by decide) rfl rfl) ?_)
  rintro r S ⟨x3,i3,h3,⟨rfl,rfl⟩,hi3,hx3⟩
  refine p_ rfl (l_field rfl fo_53_0) ?_
  refine EOps_go rfl rfl (EOp_store rfl rfl rfl (xb1 ty_3) ?_)
  refine EOps_nil ?_
  refine E_seq ?_
  refine E_region' (L:=[0,1]) rfl ?_
  refine l_ rfl (L_load rfl (xb0 ty_53)) ?_
  refine EOps_go rfl rfl (EOp_store rfl rfl rfl (xb1 ty_53) ?_)
  refine EOps_nil ?_
  refine E_ret ?_
  first
   | exact⟨_,[],rfl,rfl,_,_,i2,h2,⟨rfl,rfl⟩,hi2⟩
   | exact⟨_,[],rfl,rfl,_,_,i3,h3,⟨rfl,rfl⟩,hi3⟩
 refine E_seq ?_
 refine E_region' (L:=[0,1]) rfl ?_
 refine p_ rfl (L_bin rfl rfl rfl rfl) ?_
 refine xas ?_
 refine EOps_nil ?_
 refine E_cond rfl (fun hc14=>?_) (fun hc14=>?_)
 ·refine e_tidy_A136_2 [0, 2, 3, 7, 8, 14] ?_
  refine E_region' (L:=[0,1,2,3,4]) rfl ?_
  refine xmv ?_
  refine EOps_go rfl rfl (Heavy.op (H_bslice rfl rfl (by decide) sl_22 ty_3 za_3 ⟨rfl,by decide⟩ (by decide) rfl rfl rfl rfl ?_))
  refine EOps_go rfl rfl (xe2 rfl rfl rfl ca_168 (c_spec_l1PickInt l i2 h2 _ 14 [-1001,-1000,1000,1001] 4 hb hi2 (by decide) rfl rfl) ?_)
  rintro r S ⟨x3,i3,h3,⟨rfl,rfl⟩,hi3,hx3⟩
  refine p_ rfl (l_field rfl fo_53_1) ?_
  refine EOps_go rfl rfl (EOp_store rfl rfl rfl (xb1 ty_3) ?_)
  refine EOps_nil ?_
  refine E_seq ?_
  refine E_region' (L:=[0,1]) rfl ?_
  refine l_ rfl (L_load rfl (xb0 ty_53)) ?_
  refine EOps_go rfl rfl (EOp_store rfl rfl rfl (xb1 ty_53) ?_)
  refine EOps_nil ?_
  refine E_ret ?_
  first
   | exact⟨_,[],rfl,rfl,_,_,i2,h2,⟨rfl,rfl⟩,hi2⟩
   | exact⟨_,[],rfl,rfl,_,_,i3,h3,⟨rfl,rfl⟩,hi3⟩
 refine E_skip ?_
 refine E_seq ?_
 refine E_region' (L:=[0,1]) rfl ?_
 refine l_ rfl (L_load rfl (xb0 ty_53)) ?_
 refine EOps_go rfl rfl (EOp_store rfl rfl rfl (xb1 ty_53) ?_)
 refine EOps_nil ?_
 refine E_ret ?_
 first
  | exact⟨_,[],rfl,rfl,_,_,i2,h2,⟨rfl,rfl⟩,hi2⟩
  | exact⟨_,[],rfl,rfl,_,_,i3,h3,⟨rfl,rfl⟩,hi3⟩

set_option maxRecDepth 20000 in
set_option maxHeartbeats 4000000 in
theorem c_spec_l6Range_er (l : List Int) (i h : Int) (Y : Crk) (p : Pnd) (hb : byL l) (hi : curOk l i) (hX : Y.vals.length ≤ 100000) : EFn Tryz.prog 113 [.c (.bp 0 0), .agg (crkO 4 Y)] [.box (curC l i h), .box [.sc (.slice none 0 0), .sc (.slice none 0 0), .sc (.slice none 0 0)], .box [.sc (.slice none 0 0), .sc (.slice none 0 0)], .box [.sc (.int .i64 0), .sc (.int .i64 0)], .row 3 1 (ints Y.vals), .row 3 1 (ints Y.rows), .row 151 2 (pairs Y.piv), .box (crkO 4 Y), .row 104 2 (pairs p.ins), .row 3 1 (ints p.del), .box (pndO 8 p)] (fun r S => ∃ (a b i' h' : Int), (r = .agg [.sc (.int .i64 a), .sc (.int .i64 b)] ∧ S = [.box (curC l i' h'), .box [.sc (.slice none 0 0), .sc (.slice none 0 0), .sc (.slice none 0 0)], .box [.sc (.slice none 0 0), .sc (.slice none 0 0)], .box [.sc (.int .i64 0), .sc (.int .i64 0)], .row 3 1 (ints Y.vals), .row 3 1 (ints Y.rows), .row 151 2 (pairs Y.piv), .box (crkO 4 Y), .row 104 2 (pairs p.ins), .row 3 1 (ints p.del), .box (pndO 8 p)]) ∧ curOk l i') := by
 refine E_fn Tryz.func113 rfl (Nat.le_of_ble_eq_true rfl) ?_
 refine E_seq ?_
 refine E_region' (L:=[0,1]) rfl ?_
 refine x_box rfl rfl rfl rfl rfl ?_
 refine x_alloc rfl rfl rfl rfl za_53 ?_
 refine EOps_nil ?_
 refine E_seq ?_
 refine e_tidy_A136_2 [0,1,3,4] ?_
 refine E_region' (L:=[0,1,2,3]) rfl ?_
 refine xmv ?_
 refine l_ rfl (L_load rfl (xb0 ty_49)) ?_
 refine EOps_go rfl rfl (xe2 rfl rfl rfl ca_119 (c_spec_l4Value_erv l i h Y p hb hi hX) ?_)
 rintro r S ⟨u,i1,h1,⟨rfl,rfl⟩,hi1⟩
 refine xas ?_
 refine EOps_nil ?_
 refine E_seq ?_
 refine e_tidy_A136_2 [0,1,3,4,5] ?_
 refine E_region' (L:=[0,1,2,3]) rfl ?_
 refine xmv ?_
 refine l_ rfl (L_load rfl (xb0 ty_49)) ?_
 refine EOps_go rfl rfl (xe2 rfl rfl rfl ca_119 (c_spec_l4Value_erv l i1 h1 Y p hb hi1 hX) ?_)
 rintro r S ⟨v,i2,h2,⟨rfl,rfl⟩,hi2⟩
 refine xas ?_
 refine EOps_nil ?_
 refine E_seq ?_
 refine E_seq ?_
 refine e_tidy_A136_2 [0,1,3,4,5,6] ?_
 refine E_region' (L:=[0,1]) rfl ?_
 refine xmv ?_
 refine EOps_go rfl rfl (xe2 rfl rfl rfl ca_185 (c_spec_l1Once l i2 h2 12 _ hb hi2 (by decide)) ?_)
 rintro r S ⟨b3,i3,h3,⟨rfl,rfl⟩,hi3⟩
 refine EOps_nil ?_
 refine E_cond rfl (fun hc14=>?_) (fun hc14=>?_)
 ·refine E_seq ?_
  refine e_tidy_A136_2 [0,1,3,4,5,6,14] ?_
  refine E_region' (L:=[0,1,2]) rfl ?_
  refine xmv ?_
  refine EOps_go rfl rfl (xe1 rfl rfl rfl ca_186 (c_spec_l3Any_ert l i3 h3 Y p hb hi3) ?_)
  rintro r S ⟨a4,b4,i4,h4,⟨rfl,rfl⟩,hi4⟩
  refine EOps_go rfl rfl (EOp_store rfl rfl rfl (xb1 ty_53) ?_)
  refine EOps_nil ?_
  refine E_ret ?_
  first
   | exact⟨_,[],rfl,rfl,_,_,i3,h3,⟨rfl,rfl⟩,hi3⟩
   | exact⟨_,[],rfl,rfl,_,_,i4,h4,⟨rfl,rfl⟩,hi4⟩
 refine E_skip ?_
 refine E_seq ?_
 refine E_region' (L:=[0,1,2,3,4,5,6,7]) rfl ?_
 refine xmv ?_
 refine xmv ?_
 refine p_ rfl (L_min rfl rfl rfl) ?_
 refine xmv ?_
 refine xmv ?_
 refine p_ rfl (L_max rfl rfl rfl) ?_
 refine p_ rfl (L_build rfl bd_53 rfl rfl) ?_
 refine EOps_go rfl rfl (EOp_store rfl rfl rfl (xb1 ty_53) ?_)
 refine EOps_nil ?_
 refine E_ret ?_
 first
  | exact⟨_,[],rfl,rfl,_,_,i3,h3,⟨rfl,rfl⟩,hi3⟩
  | exact⟨_,[],rfl,rfl,_,_,i4,h4,⟨rfl,rfl⟩,hi4⟩

set_option maxRecDepth 20000 in
set_option maxHeartbeats 8000000 in
theorem c_spec_DrawMergeRange (l : List Int) (hb : byL l) : EFn Tryz.prog 69 [.c (.ro (bytes l))] [] (fun r S => ∃ (Y : Crk) (p : Pnd) (x : Int × Int), (r = .tup [(true, crkO 0 Y), (true, pndO 3 p), (true, [.sc (.int .i64 x.1), .sc (.int .i64 x.2)])] ∧ S = crkR 3 151 Y ++ pndR 3 104 p) ∧ Y.vals.length ≤ 14 ∧ Y.rows.length ≤ 15 ∧ Y.piv.length ≤ 5 ∧ p.ins.length ≤ 6 ∧ p.del.length ≤ 6) := by
 refine E_fn Tryz.func69 rfl (Nat.le_of_ble_eq_true rfl) ?_
 refine E_G (n:=0) rfl ?_
 refine G_seq ?_
 refine G_region' (L:=[0,1,2]) rfl ?_
 refine x_alloc rfl rfl rfl rfl za_49 ?_
 refine x_alloc rfl rfl rfl rfl za_91 ?_
 refine x_alloc rfl rfl rfl rfl za_53 ?_
 refine EOps_nil ?_
 refine G_seq ?_
 refine g_tidy_A136_8 [0,2,3,4] ?_
 refine G_region' (L:=[0,1,2]) rfl ?_
 refine xmv ?_
 refine EOps_go rfl rfl (xe1 rfl rfl rfl ca_110 (c_spec_l1New l _ hb) ?_)
 rintro r S ⟨h1,rfl,rfl⟩
 refine xas ?_
 refine EOps_nil ?_
 refine G_seq ?_
 refine G_drop [0,2,3,4,5] [3,0,1,2] rfl rfl rfl ?_
 refine g_tidy_A136_8 [0,2,3,4,5] ?_
 refine G_region' (L:=[0,1,2,3]) rfl ?_
 refine xmv ?_
 refine EOps_go rfl rfl (xe1 rfl rfl rfl ca_111 (c_spec_l4Any_e l 0 h1 hb (by unfold curOk;omega)) ?_)
 rintro r S ⟨Y,i2,h2,⟨rfl,rfl⟩,hi2,hyv,hyr,hyp⟩
 refine x_alloc rfl rfl rfl rfl za_49 ?_
 refine EOps_go rfl rfl (EOp_store rfl rfl rfl (xb1 ty_49) ?_)
 refine EOps_nil ?_
 refine G_seq ?_
 refine g_tidy_A136_8 [0,2,3,4,5,6] ?_
 refine G_region' (L:=[0,1,2,3,4]) rfl ?_
 refine xmv ?_
 refine l_ rfl (L_load rfl (xb0 ty_49)) ?_
 refine EOps_go rfl rfl (xe2 rfl rfl rfl ca_145 (c_spec_l11Pending_ep l i2 h2 Y hb hi2 (by omega)) ?_)
 rintro r S ⟨p,i3,h3,⟨rfl,rfl⟩,hi3,hpi,hpd⟩
 refine x_alloc rfl rfl rfl rfl za_91 ?_
 refine EOps_go rfl rfl (EOp_store rfl rfl rfl (xb1 ty_91) ?_)
 refine EOps_nil ?_
 refine G_seq ?_
 refine g_tidy_A136_8 [0,2,3,4,5,6,7] ?_
 refine G_drawU mixed ?_
 refine up_ 2 rfl (L_move rfl) ?_
 refine u_any 0 [1,3] ⟨?_,?_,?_,trivial⟩
 ·refine u_op 0 rfl rfl (EOp_light rfl (by decide) (L_load rfl (xb3 ty_49)) ?_)
  refine u_any 1 [3] ⟨?_,?_,trivial⟩
  ·refine u_op 1 rfl rfl (EOp_light rfl (by decide) (L_load rfl (xb3 ty_91)) ?_)
   refine u_any 3 [] ⟨?_,trivial⟩
   refine u_op 3 rfl rfl (EOp_light rfl (by decide) (L_load rfl (xb0 ty_49)) ?_)
   refine u_any 4 [] ⟨?_,trivial⟩
   refine u_op 4 rfl rfl (xe2 rfl rfl rfl ca_113 (c_spec_l6Range_er l i3 h3 Y p hb hi3 (by omega)) ?_)
   rintro r S ⟨a,b,i4,h4,⟨rfl,rfl⟩,hi4⟩
   refine u_any 5 [] ⟨?_,trivial⟩
   refine u_op 5 rfl rfl (EOp_store rfl rfl rfl (xb1 ty_49) ?_)
   refine u_any 6 [] ⟨?_,trivial⟩
   refine u_op 6 rfl rfl (EOp_store rfl rfl rfl (xb1 ty_91) ?_)
   refine u_any 7 [] ⟨?_,trivial⟩
   refine u_op 7 rfl rfl (EOp_store rfl rfl rfl (xb1 ty_53) ?_)
   refine u_done ?_
   refine G_ret ?_
   exact⟨_,[4,5,6,8,9],rfl,rfl,Y,p,(a,b),⟨rfl,rfl⟩,hyv,hyr,hyp,hpi,hpd⟩
  refine u_op 3 rfl rfl (EOp_light rfl (by decide) (L_load rfl (xb3 ty_49)) ?_)
  refine u_any 1 [4] ⟨?_,?_,trivial⟩
  ·refine u_op 1 rfl rfl (EOp_light rfl (by decide) (L_load rfl (xb3 ty_91)) ?_)
   refine u_any 4 [] ⟨?_,trivial⟩
   refine u_op 4 rfl rfl (xe2 rfl rfl rfl ca_113 (c_spec_l6Range_er l i3 h3 Y p hb hi3 (by omega)) ?_)
   rintro r S ⟨a,b,i4,h4,⟨rfl,rfl⟩,hi4⟩
   refine u_any 5 [] ⟨?_,trivial⟩
   refine u_op 5 rfl rfl (EOp_store rfl rfl rfl (xb1 ty_49) ?_)
   refine u_any 6 [] ⟨?_,trivial⟩
   refine u_op 6 rfl rfl (EOp_store rfl rfl rfl (xb1 ty_91) ?_)
   refine u_any 7 [] ⟨?_,trivial⟩
   refine u_op 7 rfl rfl (EOp_store rfl rfl rfl (xb1 ty_53) ?_)
   refine u_done ?_
   refine G_ret ?_
   exact⟨_,[4,5,6,8,9],rfl,rfl,Y,p,(a,b),⟨rfl,rfl⟩,hyv,hyr,hyp,hpi,hpd⟩
  refine u_op 4 rfl rfl (xe2 rfl rfl rfl ca_113 (c_spec_l6Range_er l i3 h3 Y p hb hi3 (by omega)) ?_)
  rintro r S ⟨a,b,i4,h4,⟨rfl,rfl⟩,hi4⟩
  refine u_any 1 [5] ⟨?_,?_,trivial⟩
  ·refine u_op 1 rfl rfl (EOp_light rfl (by decide) (L_load rfl (xb3 ty_91)) ?_)
   refine u_any 5 [] ⟨?_,trivial⟩
   refine u_op 5 rfl rfl (EOp_store rfl rfl rfl (xb1 ty_49) ?_)
   refine u_any 6 [] ⟨?_,trivial⟩
   refine u_op 6 rfl rfl (EOp_store rfl rfl rfl (xb1 ty_91) ?_)
   refine u_any 7 [] ⟨?_,trivial⟩
   refine u_op 7 rfl rfl (EOp_store rfl rfl rfl (xb1 ty_53) ?_)
   refine u_done ?_
   refine G_ret ?_
   exact⟨_,[4,5,6,8,9],rfl,rfl,Y,p,(a,b),⟨rfl,rfl⟩,hyv,hyr,hyp,hpi,hpd⟩
  refine u_op 5 rfl rfl (EOp_store rfl rfl rfl (by first | exact s_bp ty_49 | exact s_ep ty_49) ?_)
  refine u_any 1 [] ⟨?_,trivial⟩
  refine u_op 1 rfl rfl (EOp_light rfl (by decide) (L_load rfl (xb0 ty_91)) ?_)
  refine u_any 6 [] ⟨?_,trivial⟩
  refine u_op 6 rfl rfl (EOp_store rfl rfl rfl (xb1 ty_91) ?_)
  refine u_any 7 [] ⟨?_,trivial⟩
  refine u_op 7 rfl rfl (EOp_store rfl rfl rfl (xb1 ty_53) ?_)
  refine u_done ?_
  refine G_ret ?_
  exact⟨_,[4,5,6,8,9],rfl,rfl,Y,p,(a,b),⟨rfl,rfl⟩,hyv,hyr,hyp,hpi,hpd⟩
 ·refine u_op 1 rfl rfl (EOp_light rfl (by decide) (L_load rfl (xb3 ty_91)) ?_)
  refine u_any 0 [3] ⟨?_,?_,trivial⟩
  ·refine u_op 0 rfl rfl (EOp_light rfl (by decide) (L_load rfl (xb3 ty_49)) ?_)
   refine u_any 3 [] ⟨?_,trivial⟩
   refine u_op 3 rfl rfl (EOp_light rfl (by decide) (L_load rfl (xb0 ty_49)) ?_)
   refine u_any 4 [] ⟨?_,trivial⟩
   refine u_op 4 rfl rfl (xe2 rfl rfl rfl ca_113 (c_spec_l6Range_er l i3 h3 Y p hb hi3 (by omega)) ?_)
   rintro r S ⟨a,b,i4,h4,⟨rfl,rfl⟩,hi4⟩
   refine u_any 5 [] ⟨?_,trivial⟩
   refine u_op 5 rfl rfl (EOp_store rfl rfl rfl (xb1 ty_49) ?_)
   refine u_any 6 [] ⟨?_,trivial⟩
   refine u_op 6 rfl rfl (EOp_store rfl rfl rfl (xb1 ty_91) ?_)
   refine u_any 7 [] ⟨?_,trivial⟩
   refine u_op 7 rfl rfl (EOp_store rfl rfl rfl (xb1 ty_53) ?_)
   refine u_done ?_
   refine G_ret ?_
   exact⟨_,[4,5,6,8,9],rfl,rfl,Y,p,(a,b),⟨rfl,rfl⟩,hyv,hyr,hyp,hpi,hpd⟩
  refine u_op 3 rfl rfl (EOp_light rfl (by decide) (L_load rfl (xb3 ty_49)) ?_)
  refine u_any 0 [4] ⟨?_,?_,trivial⟩
  ·refine u_op 0 rfl rfl (EOp_light rfl (by decide) (L_load rfl (xb3 ty_49)) ?_)
   refine u_any 4 [] ⟨?_,trivial⟩
   refine u_op 4 rfl rfl (xe2 rfl rfl rfl ca_113 (c_spec_l6Range_er l i3 h3 Y p hb hi3 (by omega)) ?_)
   rintro r S ⟨a,b,i4,h4,⟨rfl,rfl⟩,hi4⟩
   refine u_any 5 [] ⟨?_,trivial⟩
   refine u_op 5 rfl rfl (EOp_store rfl rfl rfl (xb1 ty_49) ?_)
   refine u_any 6 [] ⟨?_,trivial⟩
   refine u_op 6 rfl rfl (EOp_store rfl rfl rfl (xb1 ty_91) ?_)
   refine u_any 7 [] ⟨?_,trivial⟩
   refine u_op 7 rfl rfl (EOp_store rfl rfl rfl (xb1 ty_53) ?_)
   refine u_done ?_
   refine G_ret ?_
   exact⟨_,[4,5,6,8,9],rfl,rfl,Y,p,(a,b),⟨rfl,rfl⟩,hyv,hyr,hyp,hpi,hpd⟩
  refine u_op 4 rfl rfl (xe2 rfl rfl rfl ca_113 (c_spec_l6Range_er l i3 h3 Y p hb hi3 (by omega)) ?_)
  rintro r S ⟨a,b,i4,h4,⟨rfl,rfl⟩,hi4⟩
  refine u_any 0 [] ⟨?_,trivial⟩
  refine u_op 0 rfl rfl (EOp_light rfl (by decide) (L_load rfl (xb0 ty_49)) ?_)
  refine u_any 5 [] ⟨?_,trivial⟩
  refine u_op 5 rfl rfl (EOp_store rfl rfl rfl (xb1 ty_49) ?_)
  refine u_any 6 [] ⟨?_,trivial⟩
  refine u_op 6 rfl rfl (EOp_store rfl rfl rfl (xb1 ty_91) ?_)
  refine u_any 7 [] ⟨?_,trivial⟩
  refine u_op 7 rfl rfl (EOp_store rfl rfl rfl (xb1 ty_53) ?_)
  refine u_done ?_
  refine G_ret ?_
  exact⟨_,[4,5,6,8,9],rfl,rfl,Y,p,(a,b),⟨rfl,rfl⟩,hyv,hyr,hyp,hpi,hpd⟩
 refine u_op 3 rfl rfl (EOp_light rfl (by decide) (L_load rfl (xb3 ty_49)) ?_)
 refine u_any 0 [1,4] ⟨?_,?_,?_,trivial⟩
 ·refine u_op 0 rfl rfl (EOp_light rfl (by decide) (L_load rfl (xb3 ty_49)) ?_)
  refine u_any 1 [4] ⟨?_,?_,trivial⟩
  ·refine u_op 1 rfl rfl (EOp_light rfl (by decide) (L_load rfl (xb3 ty_91)) ?_)
   refine u_any 4 [] ⟨?_,trivial⟩
   refine u_op 4 rfl rfl (xe2 rfl rfl rfl ca_113 (c_spec_l6Range_er l i3 h3 Y p hb hi3 (by omega)) ?_)
   rintro r S ⟨a,b,i4,h4,⟨rfl,rfl⟩,hi4⟩
   refine u_any 5 [] ⟨?_,trivial⟩
   refine u_op 5 rfl rfl (EOp_store rfl rfl rfl (xb1 ty_49) ?_)
   refine u_any 6 [] ⟨?_,trivial⟩
   refine u_op 6 rfl rfl (EOp_store rfl rfl rfl (xb1 ty_91) ?_)
   refine u_any 7 [] ⟨?_,trivial⟩
   refine u_op 7 rfl rfl (EOp_store rfl rfl rfl (xb1 ty_53) ?_)
   refine u_done ?_
   refine G_ret ?_
   exact⟨_,[4,5,6,8,9],rfl,rfl,Y,p,(a,b),⟨rfl,rfl⟩,hyv,hyr,hyp,hpi,hpd⟩
  refine u_op 4 rfl rfl (xe2 rfl rfl rfl ca_113 (c_spec_l6Range_er l i3 h3 Y p hb hi3 (by omega)) ?_)
  rintro r S ⟨a,b,i4,h4,⟨rfl,rfl⟩,hi4⟩
  refine u_any 1 [5] ⟨?_,?_,trivial⟩
  ·refine u_op 1 rfl rfl (EOp_light rfl (by decide) (L_load rfl (xb3 ty_91)) ?_)
   refine u_any 5 [] ⟨?_,trivial⟩
   refine u_op 5 rfl rfl (EOp_store rfl rfl rfl (xb1 ty_49) ?_)
   refine u_any 6 [] ⟨?_,trivial⟩
   refine u_op 6 rfl rfl (EOp_store rfl rfl rfl (xb1 ty_91) ?_)
   refine u_any 7 [] ⟨?_,trivial⟩
   refine u_op 7 rfl rfl (EOp_store rfl rfl rfl (xb1 ty_53) ?_)
   refine u_done ?_
   refine G_ret ?_
   exact⟨_,[4,5,6,8,9],rfl,rfl,Y,p,(a,b),⟨rfl,rfl⟩,hyv,hyr,hyp,hpi,hpd⟩
  refine u_op 5 rfl rfl (EOp_store rfl rfl rfl (by first | exact s_bp ty_49 | exact s_ep ty_49) ?_)
  refine u_any 1 [] ⟨?_,trivial⟩
  refine u_op 1 rfl rfl (EOp_light rfl (by decide) (L_load rfl (xb0 ty_91)) ?_)
  refine u_any 6 [] ⟨?_,trivial⟩
  refine u_op 6 rfl rfl (EOp_store rfl rfl rfl (xb1 ty_91) ?_)
  refine u_any 7 [] ⟨?_,trivial⟩
  refine u_op 7 rfl rfl (EOp_store rfl rfl rfl (xb1 ty_53) ?_)
  refine u_done ?_
  refine G_ret ?_
  exact⟨_,[4,5,6,8,9],rfl,rfl,Y,p,(a,b),⟨rfl,rfl⟩,hyv,hyr,hyp,hpi,hpd⟩
 ·refine u_op 1 rfl rfl (EOp_light rfl (by decide) (L_load rfl (xb3 ty_91)) ?_)
  refine u_any 0 [4] ⟨?_,?_,trivial⟩
  ·refine u_op 0 rfl rfl (EOp_light rfl (by decide) (L_load rfl (xb3 ty_49)) ?_)
   refine u_any 4 [] ⟨?_,trivial⟩
   refine u_op 4 rfl rfl (xe2 rfl rfl rfl ca_113 (c_spec_l6Range_er l i3 h3 Y p hb hi3 (by omega)) ?_)
   rintro r S ⟨a,b,i4,h4,⟨rfl,rfl⟩,hi4⟩
   refine u_any 5 [] ⟨?_,trivial⟩
   refine u_op 5 rfl rfl (EOp_store rfl rfl rfl (xb1 ty_49) ?_)
   refine u_any 6 [] ⟨?_,trivial⟩
   refine u_op 6 rfl rfl (EOp_store rfl rfl rfl (xb1 ty_91) ?_)
   refine u_any 7 [] ⟨?_,trivial⟩
   refine u_op 7 rfl rfl (EOp_store rfl rfl rfl (xb1 ty_53) ?_)
   refine u_done ?_
   refine G_ret ?_
   exact⟨_,[4,5,6,8,9],rfl,rfl,Y,p,(a,b),⟨rfl,rfl⟩,hyv,hyr,hyp,hpi,hpd⟩
  refine u_op 4 rfl rfl (xe2 rfl rfl rfl ca_113 (c_spec_l6Range_er l i3 h3 Y p hb hi3 (by omega)) ?_)
  rintro r S ⟨a,b,i4,h4,⟨rfl,rfl⟩,hi4⟩
  refine u_any 0 [] ⟨?_,trivial⟩
  refine u_op 0 rfl rfl (EOp_light rfl (by decide) (L_load rfl (xb0 ty_49)) ?_)
  refine u_any 5 [] ⟨?_,trivial⟩
  refine u_op 5 rfl rfl (EOp_store rfl rfl rfl (xb1 ty_49) ?_)
  refine u_any 6 [] ⟨?_,trivial⟩
  refine u_op 6 rfl rfl (EOp_store rfl rfl rfl (xb1 ty_91) ?_)
  refine u_any 7 [] ⟨?_,trivial⟩
  refine u_op 7 rfl rfl (EOp_store rfl rfl rfl (xb1 ty_53) ?_)
  refine u_done ?_
  refine G_ret ?_
  exact⟨_,[4,5,6,8,9],rfl,rfl,Y,p,(a,b),⟨rfl,rfl⟩,hyv,hyr,hyp,hpi,hpd⟩
 refine u_op 4 rfl rfl (xe2 rfl rfl rfl ca_113 (c_spec_l6Range_er l i3 h3 Y p hb hi3 (by omega)) ?_)
 rintro r S ⟨a,b,i4,h4,⟨rfl,rfl⟩,hi4⟩
 refine u_any 0 [1] ⟨?_,?_,trivial⟩
 ·refine u_op 0 rfl rfl (EOp_light rfl (by decide) (L_load rfl (xb3 ty_49)) ?_)
  refine u_any 1 [5] ⟨?_,?_,trivial⟩
  ·refine u_op 1 rfl rfl (EOp_light rfl (by decide) (L_load rfl (xb3 ty_91)) ?_)
   refine u_any 5 [] ⟨?_,trivial⟩
   refine u_op 5 rfl rfl (EOp_store rfl rfl rfl (xb1 ty_49) ?_)
   refine u_any 6 [] ⟨?_,trivial⟩
   refine u_op 6 rfl rfl (EOp_store rfl rfl rfl (xb1 ty_91) ?_)
   refine u_any 7 [] ⟨?_,trivial⟩
   refine u_op 7 rfl rfl (EOp_store rfl rfl rfl (xb1 ty_53) ?_)
   refine u_done ?_
   refine G_ret ?_
   exact⟨_,[4,5,6,8,9],rfl,rfl,Y,p,(a,b),⟨rfl,rfl⟩,hyv,hyr,hyp,hpi,hpd⟩
  refine u_op 5 rfl rfl (EOp_store rfl rfl rfl (by first | exact s_bp ty_49 | exact s_ep ty_49) ?_)
  refine u_any 1 [] ⟨?_,trivial⟩
  refine u_op 1 rfl rfl (EOp_light rfl (by decide) (L_load rfl (xb0 ty_91)) ?_)
  refine u_any 6 [] ⟨?_,trivial⟩
  refine u_op 6 rfl rfl (EOp_store rfl rfl rfl (xb1 ty_91) ?_)
  refine u_any 7 [] ⟨?_,trivial⟩
  refine u_op 7 rfl rfl (EOp_store rfl rfl rfl (xb1 ty_53) ?_)
  refine u_done ?_
  refine G_ret ?_
  exact⟨_,[4,5,6,8,9],rfl,rfl,Y,p,(a,b),⟨rfl,rfl⟩,hyv,hyr,hyp,hpi,hpd⟩
 refine u_op 1 rfl rfl (EOp_light rfl (by decide) (L_load rfl (xb3 ty_91)) ?_)
 refine u_any 0 [] ⟨?_,trivial⟩
 refine u_op 0 rfl rfl (EOp_light rfl (by decide) (L_load rfl (xb0 ty_49)) ?_)
 refine u_any 5 [] ⟨?_,trivial⟩
 refine u_op 5 rfl rfl (EOp_store rfl rfl rfl (xb1 ty_49) ?_)
 refine u_any 6 [] ⟨?_,trivial⟩
 refine u_op 6 rfl rfl (EOp_store rfl rfl rfl (xb1 ty_91) ?_)
 refine u_any 7 [] ⟨?_,trivial⟩
 refine u_op 7 rfl rfl (EOp_store rfl rfl rfl (xb1 ty_53) ?_)
 refine u_done ?_
 refine G_ret ?_
 exact⟨_,[4,5,6,8,9],rfl,rfl,Y,p,(a,b),⟨rfl,rfl⟩,hyv,hyr,hyp,hpi,hpd⟩

end Go.Proofs.YtlodlnbhjghjoaaGreat.E
