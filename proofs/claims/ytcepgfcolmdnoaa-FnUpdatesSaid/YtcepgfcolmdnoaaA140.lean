/- Walks through functions, by program out of the session's annotations. -/
import Derived.Test.YtcepgfcolmdnoaaA136
namespace Go.Proofs.Ytcepgfcolmdnoaa.E
open Go Go.RowKit Go.Proofs
set_option linter.unusedVariables false
set_option linter.unusedSimpArgs false

theorem e_tidy_A140_0 {P:Program} {N:Nat} {s:Slots} {R:List Res} {Q:Exit→Slots→List Res→Prop} {c:Code} (keep:List Nat) {base:Slots} {R':List Res} (h:ECode P N c base R' Q) (hb:keepOf s keep=base:=by simp only [E.keepOf,E.get,E.ev,E.cv,E.fill',E.fill,E.slotsOf,Res.sh,AC.sh,AC.sh.shs,AV.sh,E.splice,List.map_cons,List.map_nil,List.cons_append,List.nil_append,List.append_nil,List.length_cons,List.length_nil,List.take_zero,List.drop_zero,List.take_succ_cons,List.drop_succ_cons,List.drop_nil,List.take_nil,List.set_cons_zero,List.set_cons_succ,Nat.zero_add,Nat.add_zero,Nat.reduceAdd,Nat.reduceSub,reduceIte,Nat.reduceEqDiff,E.back,E.backR,E.ix,Res.un,AC.un,AC.un.uns,AV.un,E.un,Option.map_some,Option.map_none,Option.getD_some,List.getElem?_cons_zero,List.getElem?_cons_succ,List.getElem?_nil,curC,crkO];rfl) (hR:R=R':=by (try simp only [E.keepOf,E.get,E.ev,E.cv,E.fill',E.fill,E.slotsOf,Res.sh,AC.sh,AC.sh.shs,AV.sh,E.splice,List.map_cons,List.map_nil,List.cons_append,List.nil_append,List.append_nil,List.length_cons,List.length_nil,List.take_zero,List.drop_zero,List.take_succ_cons,List.drop_succ_cons,List.drop_nil,List.take_nil,List.set_cons_zero,List.set_cons_succ,Nat.zero_add,Nat.add_zero,Nat.reduceAdd,Nat.reduceSub,reduceIte,Nat.reduceEqDiff,E.back,E.backR,E.ix,Res.un,AC.un,AC.un.uns,AV.un,E.un,Option.map_some,Option.map_none,Option.getD_some,List.getElem?_cons_zero,List.getElem?_cons_succ,List.getElem?_nil,curC,crkO]);rfl):ECode P N c s R Q:=E_tidy keep hb hR h
theorem g_tidy_A140_1 {P:Program} {N n:Nat} {s:Slots} {R:List Res} {Q:Exit→Slots→List Res→Prop} {c:Code} (keep:List Nat) {base:Slots} {R':List Res} (h:GCode P N n c base R' Q) (hb:keepOf s keep=base:=by simp only [E.keepOf,E.get,E.ev,E.cv,E.fill',E.fill,E.slotsOf,Res.sh,AC.sh,AC.sh.shs,AV.sh,E.splice,List.map_cons,List.map_nil,List.cons_append,List.nil_append,List.append_nil,List.length_cons,List.length_nil,List.take_zero,List.drop_zero,List.take_succ_cons,List.drop_succ_cons,List.drop_nil,List.take_nil,List.set_cons_zero,List.set_cons_succ,Nat.zero_add,Nat.add_zero,Nat.reduceAdd,Nat.reduceSub,reduceIte,Nat.reduceEqDiff,E.back,E.backR,E.ix,Res.un,AC.un,AC.un.uns,AV.un,E.un,Option.map_some,Option.map_none,Option.getD_some,List.getElem?_cons_zero,List.getElem?_cons_succ,List.getElem?_nil,curC,crkO];rfl) (hR:R=R':=by (try simp only [E.keepOf,E.get,E.ev,E.cv,E.fill',E.fill,E.slotsOf,Res.sh,AC.sh,AC.sh.shs,AV.sh,E.splice,List.map_cons,List.map_nil,List.cons_append,List.nil_append,List.append_nil,List.length_cons,List.length_nil,List.take_zero,List.drop_zero,List.take_succ_cons,List.drop_succ_cons,List.drop_nil,List.take_nil,List.set_cons_zero,List.set_cons_succ,Nat.zero_add,Nat.add_zero,Nat.reduceAdd,Nat.reduceSub,reduceIte,Nat.reduceEqDiff,E.back,E.backR,E.ix,Res.un,AC.un,AC.un.uns,AV.un,E.un,Option.map_some,Option.map_none,Option.getD_some,List.getElem?_cons_zero,List.getElem?_cons_succ,List.getElem?_nil,curC,crkO]);rfl):GCode P N n c s R Q:=G_tidy keep hb hR h
theorem g_tidy_A140_2 {P:Program} {N n:Nat} {s:Slots} {R:List Res} {Q:Exit→Slots→List Res→Prop} {c:Code} (keep:List Nat) {base:Slots} {R':List Res} (h:GCode P N n c base R' Q) (hb:keepOf s keep=base:=by simp only [E.keepOf,E.get,E.ev,E.cv,E.fill',E.fill,E.slotsOf,Res.sh,AC.sh,AC.sh.shs,AV.sh,E.splice,List.map_cons,List.map_nil,List.cons_append,List.nil_append,List.append_nil,List.length_cons,List.length_nil,List.take_zero,List.drop_zero,List.take_succ_cons,List.drop_succ_cons,List.drop_nil,List.take_nil,List.set_cons_zero,List.set_cons_succ,Nat.zero_add,Nat.add_zero,Nat.reduceAdd,Nat.reduceSub,reduceIte,Nat.reduceEqDiff,E.back,E.backR,E.ix,Res.un,AC.un,AC.un.uns,AV.un,E.un,Option.map_some,Option.map_none,Option.getD_some,List.getElem?_cons_zero,List.getElem?_cons_succ,List.getElem?_nil,curC,crkO,crkR,pndO,pndR];rfl) (hR:R=R':=by (try simp only [E.keepOf,E.get,E.ev,E.cv,E.fill',E.fill,E.slotsOf,Res.sh,AC.sh,AC.sh.shs,AV.sh,E.splice,List.map_cons,List.map_nil,List.cons_append,List.nil_append,List.append_nil,List.length_cons,List.length_nil,List.take_zero,List.drop_zero,List.take_succ_cons,List.drop_succ_cons,List.drop_nil,List.take_nil,List.set_cons_zero,List.set_cons_succ,Nat.zero_add,Nat.add_zero,Nat.reduceAdd,Nat.reduceSub,reduceIte,Nat.reduceEqDiff,E.back,E.backR,E.ix,Res.un,AC.un,AC.un.uns,AV.un,E.un,Option.map_some,Option.map_none,Option.getD_some,List.getElem?_cons_zero,List.getElem?_cons_succ,List.getElem?_nil,curC,crkO,crkR,pndO,pndR]);rfl):GCode P N n c s R Q:=G_tidy keep hb hR h

set_option maxRecDepth 20000 in
set_option maxHeartbeats 4000000 in
theorem c_spec_l4Value_ew2 (l : List Int) (i h : Int) (Y : Crk) (p : Pnd) (hb : byL l) (hi : curOk l i) (hX : Y.vals.length ≤ 100000) : EFn Try.prog 76 [.c (.bp 0 0), .agg (crkO 4 Y)] [.box (curC l i h), .box [.sc (.slice none 0 0), .sc (.slice none 0 0), .sc (.slice none 0 0)], .box [.sc (.slice none 0 0), .sc (.slice none 0 0)], .box [.sc (.int .i64 0), .sc (.int .i64 0)], .row 3 1 (ints Y.vals), .row 3 1 (ints Y.rows), .row 129 2 (pairs Y.piv), .box (crkO 4 Y), .row 60 2 (pairs p.ins), .row 3 1 (ints p.del), .box (pndO 8 p), .box (crkO 4 Y), .box [.sc (.int .i64 0), .sc (.int .i64 0)]] (fun r S => ∃ (v i' h' : Int), (r = .c (.sc (.int .i64 v)) ∧ S = [.box (curC l i' h'), .box [.sc (.slice none 0 0), .sc (.slice none 0 0), .sc (.slice none 0 0)], .box [.sc (.slice none 0 0), .sc (.slice none 0 0)], .box [.sc (.int .i64 0), .sc (.int .i64 0)], .row 3 1 (ints Y.vals), .row 3 1 (ints Y.rows), .row 129 2 (pairs Y.piv), .box (crkO 4 Y), .row 60 2 (pairs p.ins), .row 3 1 (ints p.del), .box (pndO 8 p), .box (crkO 4 Y), .box [.sc (.int .i64 0), .sc (.int .i64 0)]]) ∧ curOk l i') := by
 refine E_fn Try.func76 rfl (Nat.le_of_ble_eq_true rfl) ?_
 refine E_seq ?_
 refine E_region' (L:=[0,1]) rfl ?_
 refine x_box rfl rfl rfl rfl rfl ?_
 refine xas ?_
 refine EOps_nil ?_
 refine E_seq ?_
 refine E_seq ?_
 refine e_tidy_A140_0 [0,1,3,4] ?_
 refine E_region' (L:=[0,1,2,3,4,5,6,7,8]) rfl ?_
 refine x_pure rfl rfl rfl (l_field rfl fo_27_0) ?_
 refine x_light rfl rfl rfl (L_load rfl (xb0 ty_24)) ?_
 refine x_pure rfl rfl rfl (l_len rfl sl_24) ?_
 refine x_pure rfl rfl rfl (L_bin rfl rfl rfl rfl) ?_
 refine xmv ?_
 refine EOps_split 9 (b:=_) rfl (fun hg9=>?_) (fun hg9=>?_)
 ·have hn0 : 0 < Y.vals.length := by simp at hg9; omega
  refine xmv ?_
  refine EOps_go rfl rfl (xe2 rfl rfl rfl ca_128 (c_spec_l1Once l i h 4 _ hb hi (by decide)) ?_)
  rintro r S ⟨b1,i1,h1,⟨rfl,rfl⟩,hi1⟩
  refine x_pure rfl rfl rfl (L_not rfl rfl) ?_
  refine x_pure rfl rfl rfl (L_pick rfl rfl) ?_
  refine EOps_nil ?_
  refine E_cond rfl (fun hc13=>?_) (fun hc13=>?_)
  ·refine E_seq ?_
   refine e_tidy_A140_0 [0,1,3,4,13] ?_
   refine E_drawU mixed ?_
   refine u_pure 0 rfl rfl rfl (l_field rfl fo_27_0) ?_
   refine u_pure 2 rfl rfl rfl (L_move rfl) ?_
   refine u_pure 3 rfl rfl rfl (l_field rfl fo_27_0) ?_
   refine u_pure 9 rfl rfl rfl (L_move rfl) ?_
   refine u_any 1 [4] ⟨?_,?_,trivial⟩
   ·refine u_op 1 rfl rfl (EOp_light rfl (by decide) (L_load rfl (xb2 ty_24)) ?_)
    refine u_any 4 [] ⟨?_,trivial⟩
    refine u_op 4 rfl rfl (EOp_light rfl (by decide) (L_load rfl (xb0 ty_24)) ?_)
    refine u_pure 5 rfl rfl rfl (l_len rfl sl_24) ?_
    refine u_any 6 [] ⟨?_,trivial⟩
    refine u_op 6 rfl rfl (xe2 rfl rfl rfl ca_114 (c_spec_l1Below l i1 h1 (Y.vals.length:Int) _ hb hi1 (by omega)) ?_)
    rintro r S ⟨x2,i2,h2,⟨rfl,rfl⟩,hi2,hx2⟩
    obtain⟨kk,rfl⟩:∃ kk:Nat,x2=(kk:Int):=⟨x2.toNat,by omega⟩
    have hk1:kk<Y.vals.length:=by have:=hx2.2.1 (by omega);omega
    obtain⟨y,hy⟩:=at_lt (l:=Y.vals) hk1
    refine u_pure 7 rfl rfl rfl (L_index rfl rfl (by first|exact i_ro sl_24 ty_3|exact i_sl sl_24 ty_3)) ?_
    refine u_any 8 [10] ⟨?_,?_,trivial⟩
    ·refine u_op 8 rfl rfl (EOp_light rfl (by decide) (L_load rfl (xb2 ty_3)) ?_)
     refine u_any 10 [] ⟨?_,trivial⟩
     refine u_op 10 rfl rfl (xe2 rfl rfl rfl ca_114 (c_spec_l1Below l i2 h2 3 _ hb hi2 (by decide)) ?_)
     rintro r S ⟨x3,i3,h3,⟨rfl,rfl⟩,hi3,hx3⟩
     refine u_pure 11 rfl rfl rfl xb3 ?_
     refine u_pure 12 rfl rfl rfl xb4 ?_
     refine u_pure 13 rfl rfl rfl (L_assign rfl) ?_
     refine u_done ?_
     refine E_ret ?_
     first
      | exact⟨_,[],rfl,rfl,_,i3,h3,⟨rfl,rfl⟩,hi3⟩
      | exact⟨_,[],rfl,rfl,_,i4,h4,⟨rfl,rfl⟩,hi4⟩
    ·refine u_op 10 rfl rfl (xe2 rfl rfl rfl ca_114 (c_spec_l1Below l i2 h2 3 _ hb hi2 (by decide)) ?_)
     rintro r S ⟨x3,i3,h3,⟨rfl,rfl⟩,hi3,hx3⟩
     refine u_any 8 [] ⟨?_,trivial⟩
     refine u_op 8 rfl rfl (EOp_light rfl (by decide) (L_load rfl (xb0 ty_3)) ?_)
     refine u_pure 11 rfl rfl rfl xb3 ?_
     refine u_pure 12 rfl rfl rfl xb4 ?_
     refine u_pure 13 rfl rfl rfl (L_assign rfl) ?_
     refine u_done ?_
     refine E_ret ?_
     first
      | exact⟨_,[],rfl,rfl,_,i3,h3,⟨rfl,rfl⟩,hi3⟩
      | exact⟨_,[],rfl,rfl,_,i4,h4,⟨rfl,rfl⟩,hi4⟩
   ·refine u_op 4 rfl rfl (EOp_light rfl (by decide) (L_load rfl (xb2 ty_24)) ?_)
    refine u_pure 5 rfl rfl rfl (l_len rfl sl_24) ?_
    refine u_any 1 [6] ⟨?_,?_,trivial⟩
    ·refine u_op 1 rfl rfl (EOp_light rfl (by decide) (L_load rfl (xb2 ty_24)) ?_)
     refine u_any 6 [] ⟨?_,trivial⟩
     refine u_op 6 rfl rfl (xe2 rfl rfl rfl ca_114 (c_spec_l1Below l i1 h1 (Y.vals.length:Int) _ hb hi1 (by omega)) ?_)
     rintro r S ⟨x2,i2,h2,⟨rfl,rfl⟩,hi2,hx2⟩
     obtain⟨kk,rfl⟩:∃ kk:Nat,x2=(kk:Int):=⟨x2.toNat,by omega⟩
     have hk1:kk<Y.vals.length:=by have:=hx2.2.1 (by omega);omega
     obtain⟨y,hy⟩:=at_lt (l:=Y.vals) hk1
     refine u_pure 7 rfl rfl rfl (L_index rfl rfl (by first|exact i_ro sl_24 ty_3|exact i_sl sl_24 ty_3)) ?_
     refine u_any 8 [10] ⟨?_,?_,trivial⟩
     ·refine u_op 8 rfl rfl (EOp_light rfl (by decide) (L_load rfl (xb2 ty_3)) ?_)
      refine u_any 10 [] ⟨?_,trivial⟩
      refine u_op 10 rfl rfl (xe2 rfl rfl rfl ca_114 (c_spec_l1Below l i2 h2 3 _ hb hi2 (by decide)) ?_)
      rintro r S ⟨x3,i3,h3,⟨rfl,rfl⟩,hi3,hx3⟩
      refine u_pure 11 rfl rfl rfl xb3 ?_
      refine u_pure 12 rfl rfl rfl xb4 ?_
      refine u_pure 13 rfl rfl rfl (L_assign rfl) ?_
      refine u_done ?_
      refine E_ret ?_
      first
       | exact⟨_,[],rfl,rfl,_,i3,h3,⟨rfl,rfl⟩,hi3⟩
       | exact⟨_,[],rfl,rfl,_,i4,h4,⟨rfl,rfl⟩,hi4⟩
     ·refine u_op 10 rfl rfl (xe2 rfl rfl rfl ca_114 (c_spec_l1Below l i2 h2 3 _ hb hi2 (by decide)) ?_)
      rintro r S ⟨x3,i3,h3,⟨rfl,rfl⟩,hi3,hx3⟩
      refine u_any 8 [] ⟨?_,trivial⟩
      refine u_op 8 rfl rfl (EOp_light rfl (by decide) (L_load rfl (xb0 ty_3)) ?_)
      refine u_pure 11 rfl rfl rfl xb3 ?_
      refine u_pure 12 rfl rfl rfl xb4 ?_
      refine u_pure 13 rfl rfl rfl (L_assign rfl) ?_
      refine u_done ?_
      refine E_ret ?_
      first
       | exact⟨_,[],rfl,rfl,_,i3,h3,⟨rfl,rfl⟩,hi3⟩
       | exact⟨_,[],rfl,rfl,_,i4,h4,⟨rfl,rfl⟩,hi4⟩
    ·refine u_op 6 rfl rfl (xe2 rfl rfl rfl ca_114 (c_spec_l1Below l i1 h1 (Y.vals.length : Int) _ hb hi1 (by omega)) ?_)
     rintro r S ⟨x2,i2,h2,⟨rfl,rfl⟩,hi2,hx2⟩
     obtain⟨kk,rfl⟩:∃ kk:Nat,x2=(kk:Int):=⟨x2.toNat,by omega⟩
     have hk1:kk<Y.vals.length:=by have:=hx2.2.1 (by omega);omega
     obtain⟨y,hy⟩:=at_lt (l:=Y.vals) hk1
     refine u_any 1 [10] ⟨?_,?_,trivial⟩
     ·refine u_op 1 rfl rfl (EOp_light rfl (by decide) (L_load rfl (xb2 ty_24)) ?_)
      refine u_pure 7 rfl rfl rfl (L_index rfl rfl (by first|exact i_ro sl_24 ty_3|exact i_sl sl_24 ty_3)) ?_
      refine u_any 8 [10] ⟨?_,?_,trivial⟩
      ·refine u_op 8 rfl rfl (EOp_light rfl (by decide) (L_load rfl (xb2 ty_3)) ?_)
       refine u_any 10 [] ⟨?_,trivial⟩
       refine u_op 10 rfl rfl (xe2 rfl rfl rfl ca_114 (c_spec_l1Below l i2 h2 3 _ hb hi2 (by decide)) ?_)
       rintro r S ⟨x3,i3,h3,⟨rfl,rfl⟩,hi3,hx3⟩
       refine u_pure 11 rfl rfl rfl xb3 ?_
       refine u_pure 12 rfl rfl rfl xb4 ?_
       refine u_pure 13 rfl rfl rfl (L_assign rfl) ?_
       refine u_done ?_
       refine E_ret ?_
       first
        | exact⟨_,[],rfl,rfl,_,i3,h3,⟨rfl,rfl⟩,hi3⟩
        | exact⟨_,[],rfl,rfl,_,i4,h4,⟨rfl,rfl⟩,hi4⟩
      ·refine u_op 10 rfl rfl (xe2 rfl rfl rfl ca_114 (c_spec_l1Below l i2 h2 3 _ hb hi2 (by decide)) ?_)
       rintro r S ⟨x3,i3,h3,⟨rfl,rfl⟩,hi3,hx3⟩
       refine u_any 8 [] ⟨?_,trivial⟩
       refine u_op 8 rfl rfl (EOp_light rfl (by decide) (L_load rfl (xb0 ty_3)) ?_)
       refine u_pure 11 rfl rfl rfl xb3 ?_
       refine u_pure 12 rfl rfl rfl xb4 ?_
       refine u_pure 13 rfl rfl rfl (L_assign rfl) ?_
       refine u_done ?_
       refine E_ret ?_
       first
        | exact⟨_,[],rfl,rfl,_,i3,h3,⟨rfl,rfl⟩,hi3⟩
        | exact⟨_,[],rfl,rfl,_,i4,h4,⟨rfl,rfl⟩,hi4⟩
     ·refine u_op 10 rfl rfl (xe2 rfl rfl rfl ca_114 (c_spec_l1Below l i2 h2 3 _ hb hi2 (by decide)) ?_)
      rintro r S ⟨x3,i3,h3,⟨rfl,rfl⟩,hi3,hx3⟩
      refine u_any 1 [] ⟨?_,trivial⟩
      refine u_op 1 rfl rfl (EOp_light rfl (by decide) (L_load rfl (xb0 ty_24)) ?_)
      refine u_pure 7 rfl rfl rfl (L_index rfl rfl (by first|exact i_ro sl_24 ty_3|exact i_sl sl_24 ty_3)) ?_
      refine u_any 8 [] ⟨?_,trivial⟩
      refine u_op 8 rfl rfl (EOp_light rfl (by decide) (L_load rfl (xb0 ty_3)) ?_)
      refine u_pure 11 rfl rfl rfl xb3 ?_
      refine u_pure 12 rfl rfl rfl xb4 ?_
      refine u_pure 13 rfl rfl rfl (L_assign rfl) ?_
      refine u_done ?_
      refine E_ret ?_
      first
       | exact⟨_,[],rfl,rfl,_,i3,h3,⟨rfl,rfl⟩,hi3⟩
       | exact⟨_,[],rfl,rfl,_,i4,h4,⟨rfl,rfl⟩,hi4⟩
  ·refine E_skip ?_
   refine E_seq ?_
   refine e_tidy_A140_0 [0,1,3,4,13] ?_
   refine E_region' (L:=[0,1,2,3]) rfl ?_
   refine xmv ?_
   refine EOps_go rfl rfl (Heavy.op (H_bslice rfl rfl (by decide) sl_24 ty_3 za_3 ⟨rfl,by decide⟩ (by decide) rfl rfl rfl rfl ?_))
   refine EOps_go rfl rfl (xe2 rfl rfl rfl ca_159 (c_spec_l1PickInt l _ _ _ 13 [0,3,-2,-1000,1000,50] 6 hb (by assumption) (by decide) rfl rfl) ?_)
   rintro r S ⟨x4,i4,h4,⟨rfl,rfl⟩,hi4,hx4⟩
   refine xas ?_
   refine EOps_nil ?_
   refine E_ret ?_
   first
    | exact⟨_,[],rfl,rfl,_,i3,h3,⟨rfl,rfl⟩,hi3⟩
    | exact⟨_,[],rfl,rfl,_,i4,h4,⟨rfl,rfl⟩,hi4⟩
 ·refine x_skip rfl rfl rfl ?_
  refine x_skip rfl rfl rfl ?_
  refine x_skip rfl rfl rfl ?_
  refine x_pure rfl rfl rfl (L_pick rfl rfl) ?_
  refine EOps_nil ?_
  refine E_cond rfl (fun hc13=>?_) (fun hc13=>?_)
  ·exact Bool.noConfusion (hc13:false=true)
  ·refine E_skip ?_
   refine E_seq ?_
   refine e_tidy_A140_0 [0,1,3,4,13] ?_
   refine E_region' (L:=[0,1,2,3]) rfl ?_
   refine xmv ?_
   refine EOps_go rfl rfl (Heavy.op (H_bslice rfl rfl (by decide) sl_24 ty_3 za_3 ⟨rfl,by decide⟩ (by decide) rfl rfl rfl rfl ?_))
   refine EOps_go rfl rfl (xe2 rfl rfl rfl ca_159 (c_spec_l1PickInt l _ _ _ 13 [0,3,-2,-1000,1000,50] 6 hb (by assumption) (by decide) rfl rfl) ?_)
   rintro r S ⟨x4,i4,h4,⟨rfl,rfl⟩,hi4,hx4⟩
   refine xas ?_
   refine EOps_nil ?_
   refine E_ret ?_
   first
    | exact⟨_,[],rfl,rfl,_,i3,h3,⟨rfl,rfl⟩,hi3⟩
    | exact⟨_,[],rfl,rfl,_,i4,h4,⟨rfl,rfl⟩,hi4⟩

set_option maxRecDepth 20000 in
set_option maxHeartbeats 4000000 in
theorem c_spec_l10Item_ei (l : List Int) (i h : Int) (Y : Crk) (p : Pnd) (hb : byL l) (hi : curOk l i) (hX : Y.vals.length ≤ 100000) : EFn Try.prog 105 [.c (.bp 0 0), .agg (crkO 4 Y)] [.box (curC l i h), .box [.sc (.slice none 0 0), .sc (.slice none 0 0), .sc (.slice none 0 0)], .box [.sc (.slice none 0 0), .sc (.slice none 0 0)], .box [.sc (.int .i64 0), .sc (.int .i64 0)], .row 3 1 (ints Y.vals), .row 3 1 (ints Y.rows), .row 129 2 (pairs Y.piv), .box (crkO 4 Y), .row 60 2 (pairs p.ins), .row 3 1 (ints p.del), .box (pndO 8 p)] (fun r S => ∃ (a b i' h' : Int), (r = .agg [.sc (.int .i64 a), .sc (.int .i64 b)] ∧ S = [.box (curC l i' h'), .box [.sc (.slice none 0 0), .sc (.slice none 0 0), .sc (.slice none 0 0)], .box [.sc (.slice none 0 0), .sc (.slice none 0 0)], .box [.sc (.int .i64 0), .sc (.int .i64 0)], .row 3 1 (ints Y.vals), .row 3 1 (ints Y.rows), .row 129 2 (pairs Y.piv), .box (crkO 4 Y), .row 60 2 (pairs p.ins), .row 3 1 (ints p.del), .box (pndO 8 p)]) ∧ curOk l i') := by
 refine E_fn Try.func105 rfl (Nat.le_of_ble_eq_true rfl) ?_
 refine E_G (n:=11) rfl ?_
 refine G_seq ?_
 refine G_region' (L:=[0,1]) rfl ?_
 refine x_box rfl rfl rfl rfl rfl ?_
 refine x_alloc rfl rfl rfl rfl za_60 ?_
 refine EOps_nil ?_
 refine G_seq ?_
 refine g_tidy_A140_1 [0,1,3,4] ?_
 refine G_region' (L:=[0,1,2,3]) rfl ?_
 refine xmv ?_
 refine EOps_go rfl rfl (Heavy.op (H_bslice rfl rfl (by decide) sl_24 ty_3 za_3 ⟨rfl,by decide⟩ (by decide) rfl rfl rfl rfl ?_))
 refine EOps_go rfl rfl (xe2 rfl rfl rfl ca_159 (c_spec_l1PickInt l i h _ 12 [0,3,20,21,22,23,999] 7 hb hi (by decide) rfl rfl) ?_)
 rintro r S ⟨w,i1,h1,⟨rfl,rfl⟩,hi1,hw⟩
 refine xas ?_
 refine EOps_nil ?_
 refine G_seq ?_
 refine G_drop [0,3,4,5] [11,12] rfl rfl rfl ?_
 refine g_tidy_A140_1 [0,1,3,4,5] ?_
 refine G_region' (L:=[0,1,2,3,4,5,6,7]) rfl ?_
 refine xmv ?_
 refine x_light rfl rfl rfl (L_load rfl (xb0 ty_27)) ?_
 refine EOps_go rfl rfl (xe2 rfl rfl rfl ca_76 (c_spec_l4Value_ew2 l i1 h1 Y p hb hi1 hX) ?_)
 rintro r S ⟨v,i2,h2,⟨rfl,rfl⟩,hi2⟩
 refine x_pure rfl rfl rfl (L_min rfl rfl rfl) ?_
 refine x_pure rfl rfl rfl (L_max rfl rfl rfl) ?_
 refine xmv ?_
 refine x_pure rfl rfl rfl (L_build rfl bd_60 rfl rfl) ?_
 refine EOps_go rfl rfl (EOp_store rfl rfl rfl (xb1 ty_60) ?_)
 refine EOps_nil ?_
 refine G_ret ?_
 exact⟨_,[],rfl,rfl,_,_,i2,h2,⟨rfl,rfl⟩,hi2⟩

set_option maxRecDepth 20000 in
set_option maxHeartbeats 8000000 in
theorem c_spec_DrawAddInsert (l : List Int) (hb : byL l) : EFn Try.prog 30 [.c (.ro (bytes l))] [] (fun r S => ∃ (Y : Crk) (p : Pnd) (x : Int × Int), (r = .tup [(true, crkO 0 Y), (true, pndO 3 p), (true, [.sc (.int .i64 x.1), .sc (.int .i64 x.2)])] ∧ S = crkR 3 129 Y ++ pndR 3 60 p) ∧ Y.vals.length ≤ 14 ∧ Y.rows.length ≤ 15 ∧ Y.piv.length ≤ 5 ∧ p.ins.length ≤ 6 ∧ p.del.length ≤ 6) := by
 refine E_fn Try.func30 rfl (Nat.le_of_ble_eq_true rfl) ?_
 refine E_G (n:=0) rfl ?_
 refine G_seq ?_
 refine G_region' (L:=[0,1,2]) rfl ?_
 refine x_alloc rfl rfl rfl rfl za_27 ?_
 refine x_alloc rfl rfl rfl rfl za_58 ?_
 refine x_alloc rfl rfl rfl rfl za_60 ?_
 refine EOps_nil ?_
 refine G_seq ?_
 refine g_tidy_A140_2 [0,2,3,4] ?_
 refine G_region' (L:=[0,1,2]) rfl ?_
 refine xmv ?_
 refine EOps_go rfl rfl (xe1 rfl rfl rfl ca_74 (c_spec_l1New l _ hb) ?_)
 rintro r S ⟨h1,rfl,rfl⟩
 refine xas ?_
 refine EOps_nil ?_
 refine G_seq ?_
 refine G_drop [0,2,3,4,5] [3,0,1,2] rfl rfl rfl ?_
 refine g_tidy_A140_2 [0,2,3,4,5] ?_
 refine G_region' (L:=[0,1,2,3]) rfl ?_
 refine xmv ?_
 refine EOps_go rfl rfl (xe1 rfl rfl rfl ca_92 (c_spec_l4Any_e l 0 h1 hb (by unfold curOk;omega)) ?_)
 rintro r S ⟨Y,i2,h2,⟨rfl,rfl⟩,hi2,hyv,hyr,hyp⟩
 refine x_alloc rfl rfl rfl rfl za_27 ?_
 refine EOps_go rfl rfl (EOp_store rfl rfl rfl (xb1 ty_27) ?_)
 refine EOps_nil ?_
 refine G_seq ?_
 refine g_tidy_A140_2 [0,2,3,4,5,6] ?_
 refine G_region' (L:=[0,1,2,3,4]) rfl ?_
 refine xmv ?_
 refine x_light rfl rfl rfl (L_load rfl (xb0 ty_27)) ?_
 refine EOps_go rfl rfl (xe2 rfl rfl rfl ca_104 (c_spec_l11Pending_ep l i2 h2 Y hb hi2 (by omega)) ?_)
 rintro r S ⟨p,i3,h3,⟨rfl,rfl⟩,hi3,hpi,hpd⟩
 refine x_alloc rfl rfl rfl rfl za_58 ?_
 refine EOps_go rfl rfl (EOp_store rfl rfl rfl (xb1 ty_58) ?_)
 refine EOps_nil ?_
 refine G_seq ?_
 refine g_tidy_A140_2 [0,2,3,4,5,6,7] ?_
 refine G_drawU mixed ?_
 refine u_pure 2 rfl rfl rfl (L_move rfl) ?_
 refine u_any 0 [1,3] ⟨?_,?_,?_,trivial⟩
 ·refine u_op 0 rfl rfl (EOp_light rfl (by decide) (L_load rfl (xb2 ty_27)) ?_)
  refine u_any 1 [3] ⟨?_,?_,trivial⟩
  ·refine u_op 1 rfl rfl (EOp_light rfl (by decide) (L_load rfl (xb2 ty_58)) ?_)
   refine u_any 3 [] ⟨?_,trivial⟩
   refine u_op 3 rfl rfl (EOp_light rfl (by decide) (L_load rfl (xb0 ty_27)) ?_)
   refine u_any 4 [] ⟨?_,trivial⟩
   refine u_op 4 rfl rfl (xe2 rfl rfl rfl ca_105 (c_spec_l10Item_ei l i3 h3 Y p hb hi3 (by omega)) ?_)
   rintro r S ⟨a,b,i4,h4,⟨rfl,rfl⟩,hi4⟩
   refine u_any 5 [] ⟨?_,trivial⟩
   refine u_op 5 rfl rfl (EOp_store rfl rfl rfl (xb1 ty_27) ?_)
   refine u_any 6 [] ⟨?_,trivial⟩
   refine u_op 6 rfl rfl (EOp_store rfl rfl rfl (xb1 ty_58) ?_)
   refine u_any 7 [] ⟨?_,trivial⟩
   refine u_op 7 rfl rfl (EOp_store rfl rfl rfl (xb1 ty_60) ?_)
   refine u_done ?_
   refine G_ret ?_
   exact⟨_,[4,5,6,8,9],rfl,rfl,Y,p,(a,b),⟨rfl,rfl⟩,hyv,hyr,hyp,hpi,hpd⟩
  ·refine u_op 3 rfl rfl (EOp_light rfl (by decide) (L_load rfl (xb2 ty_27)) ?_)
   refine u_any 1 [4] ⟨?_,?_,trivial⟩
   ·refine u_op 1 rfl rfl (EOp_light rfl (by decide) (L_load rfl (xb2 ty_58)) ?_)
    refine u_any 4 [] ⟨?_,trivial⟩
    refine u_op 4 rfl rfl (xe2 rfl rfl rfl ca_105 (c_spec_l10Item_ei l i3 h3 Y p hb hi3 (by omega)) ?_)
    rintro r S ⟨a,b,i4,h4,⟨rfl,rfl⟩,hi4⟩
    refine u_any 5 [] ⟨?_,trivial⟩
    refine u_op 5 rfl rfl (EOp_store rfl rfl rfl (xb1 ty_27) ?_)
    refine u_any 6 [] ⟨?_,trivial⟩
    refine u_op 6 rfl rfl (EOp_store rfl rfl rfl (xb1 ty_58) ?_)
    refine u_any 7 [] ⟨?_,trivial⟩
    refine u_op 7 rfl rfl (EOp_store rfl rfl rfl (xb1 ty_60) ?_)
    refine u_done ?_
    refine G_ret ?_
    exact⟨_,[4,5,6,8,9],rfl,rfl,Y,p,(a,b),⟨rfl,rfl⟩,hyv,hyr,hyp,hpi,hpd⟩
   ·refine u_op 4 rfl rfl (xe2 rfl rfl rfl ca_105 (c_spec_l10Item_ei l i3 h3 Y p hb hi3 (by omega)) ?_)
    rintro r S ⟨a,b,i4,h4,⟨rfl,rfl⟩,hi4⟩
    refine u_any 1 [5] ⟨?_,?_,trivial⟩
    ·refine u_op 1 rfl rfl (EOp_light rfl (by decide) (L_load rfl (xb2 ty_58)) ?_)
     refine u_any 5 [] ⟨?_,trivial⟩
     refine u_op 5 rfl rfl (EOp_store rfl rfl rfl (xb1 ty_27) ?_)
     refine u_any 6 [] ⟨?_,trivial⟩
     refine u_op 6 rfl rfl (EOp_store rfl rfl rfl (xb1 ty_58) ?_)
     refine u_any 7 [] ⟨?_,trivial⟩
     refine u_op 7 rfl rfl (EOp_store rfl rfl rfl (xb1 ty_60) ?_)
     refine u_done ?_
     refine G_ret ?_
     exact⟨_,[4,5,6,8,9],rfl,rfl,Y,p,(a,b),⟨rfl,rfl⟩,hyv,hyr,hyp,hpi,hpd⟩
    ·refine u_op 5 rfl rfl (EOp_store rfl rfl rfl (by first | exact s_bp ty_27 | exact s_ep ty_27) ?_)
     refine u_any 1 [] ⟨?_,trivial⟩
     refine u_op 1 rfl rfl (EOp_light rfl (by decide) (L_load rfl (xb0 ty_58)) ?_)
     refine u_any 6 [] ⟨?_,trivial⟩
     refine u_op 6 rfl rfl (EOp_store rfl rfl rfl (xb1 ty_58) ?_)
     refine u_any 7 [] ⟨?_,trivial⟩
     refine u_op 7 rfl rfl (EOp_store rfl rfl rfl (xb1 ty_60) ?_)
     refine u_done ?_
     refine G_ret ?_
     exact⟨_,[4,5,6,8,9],rfl,rfl,Y,p,(a,b),⟨rfl,rfl⟩,hyv,hyr,hyp,hpi,hpd⟩
 ·refine u_op 1 rfl rfl (EOp_light rfl (by decide) (L_load rfl (xb2 ty_58)) ?_)
  refine u_any 0 [3] ⟨?_,?_,trivial⟩
  ·refine u_op 0 rfl rfl (EOp_light rfl (by decide) (L_load rfl (xb2 ty_27)) ?_)
   refine u_any 3 [] ⟨?_,trivial⟩
   refine u_op 3 rfl rfl (EOp_light rfl (by decide) (L_load rfl (xb0 ty_27)) ?_)
   refine u_any 4 [] ⟨?_,trivial⟩
   refine u_op 4 rfl rfl (xe2 rfl rfl rfl ca_105 (c_spec_l10Item_ei l i3 h3 Y p hb hi3 (by omega)) ?_)
   rintro r S ⟨a,b,i4,h4,⟨rfl,rfl⟩,hi4⟩
   refine u_any 5 [] ⟨?_,trivial⟩
   refine u_op 5 rfl rfl (EOp_store rfl rfl rfl (xb1 ty_27) ?_)
   refine u_any 6 [] ⟨?_,trivial⟩
   refine u_op 6 rfl rfl (EOp_store rfl rfl rfl (xb1 ty_58) ?_)
   refine u_any 7 [] ⟨?_,trivial⟩
   refine u_op 7 rfl rfl (EOp_store rfl rfl rfl (xb1 ty_60) ?_)
   refine u_done ?_
   refine G_ret ?_
   exact⟨_,[4,5,6,8,9],rfl,rfl,Y,p,(a,b),⟨rfl,rfl⟩,hyv,hyr,hyp,hpi,hpd⟩
  ·refine u_op 3 rfl rfl (EOp_light rfl (by decide) (L_load rfl (xb2 ty_27)) ?_)
   refine u_any 0 [4] ⟨?_,?_,trivial⟩
   ·refine u_op 0 rfl rfl (EOp_light rfl (by decide) (L_load rfl (xb2 ty_27)) ?_)
    refine u_any 4 [] ⟨?_,trivial⟩
    refine u_op 4 rfl rfl (xe2 rfl rfl rfl ca_105 (c_spec_l10Item_ei l i3 h3 Y p hb hi3 (by omega)) ?_)
    rintro r S ⟨a,b,i4,h4,⟨rfl,rfl⟩,hi4⟩
    refine u_any 5 [] ⟨?_,trivial⟩
    refine u_op 5 rfl rfl (EOp_store rfl rfl rfl (xb1 ty_27) ?_)
    refine u_any 6 [] ⟨?_,trivial⟩
    refine u_op 6 rfl rfl (EOp_store rfl rfl rfl (xb1 ty_58) ?_)
    refine u_any 7 [] ⟨?_,trivial⟩
    refine u_op 7 rfl rfl (EOp_store rfl rfl rfl (xb1 ty_60) ?_)
    refine u_done ?_
    refine G_ret ?_
    exact⟨_,[4,5,6,8,9],rfl,rfl,Y,p,(a,b),⟨rfl,rfl⟩,hyv,hyr,hyp,hpi,hpd⟩
   ·refine u_op 4 rfl rfl (xe2 rfl rfl rfl ca_105 (c_spec_l10Item_ei l i3 h3 Y p hb hi3 (by omega)) ?_)
    rintro r S ⟨a,b,i4,h4,⟨rfl,rfl⟩,hi4⟩
    refine u_any 0 [] ⟨?_,trivial⟩
    refine u_op 0 rfl rfl (EOp_light rfl (by decide) (L_load rfl (xb0 ty_27)) ?_)
    refine u_any 5 [] ⟨?_,trivial⟩
    refine u_op 5 rfl rfl (EOp_store rfl rfl rfl (xb1 ty_27) ?_)
    refine u_any 6 [] ⟨?_,trivial⟩
    refine u_op 6 rfl rfl (EOp_store rfl rfl rfl (xb1 ty_58) ?_)
    refine u_any 7 [] ⟨?_,trivial⟩
    refine u_op 7 rfl rfl (EOp_store rfl rfl rfl (xb1 ty_60) ?_)
    refine u_done ?_
    refine G_ret ?_
    exact⟨_,[4,5,6,8,9],rfl,rfl,Y,p,(a,b),⟨rfl,rfl⟩,hyv,hyr,hyp,hpi,hpd⟩
 ·refine u_op 3 rfl rfl (EOp_light rfl (by decide) (L_load rfl (xb2 ty_27)) ?_)
  refine u_any 0 [1,4] ⟨?_,?_,?_,trivial⟩
  ·refine u_op 0 rfl rfl (EOp_light rfl (by decide) (L_load rfl (xb2 ty_27)) ?_)
   refine u_any 1 [4] ⟨?_,?_,trivial⟩
   ·refine u_op 1 rfl rfl (EOp_light rfl (by decide) (L_load rfl (xb2 ty_58)) ?_)
    refine u_any 4 [] ⟨?_,trivial⟩
    refine u_op 4 rfl rfl (xe2 rfl rfl rfl ca_105 (c_spec_l10Item_ei l i3 h3 Y p hb hi3 (by omega)) ?_)
    rintro r S ⟨a,b,i4,h4,⟨rfl,rfl⟩,hi4⟩
    refine u_any 5 [] ⟨?_,trivial⟩
    refine u_op 5 rfl rfl (EOp_store rfl rfl rfl (xb1 ty_27) ?_)
    refine u_any 6 [] ⟨?_,trivial⟩
    refine u_op 6 rfl rfl (EOp_store rfl rfl rfl (xb1 ty_58) ?_)
    refine u_any 7 [] ⟨?_,trivial⟩
    refine u_op 7 rfl rfl (EOp_store rfl rfl rfl (xb1 ty_60) ?_)
    refine u_done ?_
    refine G_ret ?_
    exact⟨_,[4,5,6,8,9],rfl,rfl,Y,p,(a,b),⟨rfl,rfl⟩,hyv,hyr,hyp,hpi,hpd⟩
   ·refine u_op 4 rfl rfl (xe2 rfl rfl rfl ca_105 (c_spec_l10Item_ei l i3 h3 Y p hb hi3 (by omega)) ?_)
    rintro r S ⟨a,b,i4,h4,⟨rfl,rfl⟩,hi4⟩
    refine u_any 1 [5] ⟨?_,?_,trivial⟩
    ·refine u_op 1 rfl rfl (EOp_light rfl (by decide) (L_load rfl (xb2 ty_58)) ?_)
     refine u_any 5 [] ⟨?_,trivial⟩
     refine u_op 5 rfl rfl (EOp_store rfl rfl rfl (xb1 ty_27) ?_)
     refine u_any 6 [] ⟨?_,trivial⟩
     refine u_op 6 rfl rfl (EOp_store rfl rfl rfl (xb1 ty_58) ?_)
     refine u_any 7 [] ⟨?_,trivial⟩
     refine u_op 7 rfl rfl (EOp_store rfl rfl rfl (xb1 ty_60) ?_)
     refine u_done ?_
     refine G_ret ?_
     exact⟨_,[4,5,6,8,9],rfl,rfl,Y,p,(a,b),⟨rfl,rfl⟩,hyv,hyr,hyp,hpi,hpd⟩
    ·refine u_op 5 rfl rfl (EOp_store rfl rfl rfl (by first | exact s_bp ty_27 | exact s_ep ty_27) ?_)
     refine u_any 1 [] ⟨?_,trivial⟩
     refine u_op 1 rfl rfl (EOp_light rfl (by decide) (L_load rfl (xb0 ty_58)) ?_)
     refine u_any 6 [] ⟨?_,trivial⟩
     refine u_op 6 rfl rfl (EOp_store rfl rfl rfl (xb1 ty_58) ?_)
     refine u_any 7 [] ⟨?_,trivial⟩
     refine u_op 7 rfl rfl (EOp_store rfl rfl rfl (xb1 ty_60) ?_)
     refine u_done ?_
     refine G_ret ?_
     exact⟨_,[4,5,6,8,9],rfl,rfl,Y,p,(a,b),⟨rfl,rfl⟩,hyv,hyr,hyp,hpi,hpd⟩
  ·refine u_op 1 rfl rfl (EOp_light rfl (by decide) (L_load rfl (xb2 ty_58)) ?_)
   refine u_any 0 [4] ⟨?_,?_,trivial⟩
   ·refine u_op 0 rfl rfl (EOp_light rfl (by decide) (L_load rfl (xb2 ty_27)) ?_)
    refine u_any 4 [] ⟨?_,trivial⟩
    refine u_op 4 rfl rfl (xe2 rfl rfl rfl ca_105 (c_spec_l10Item_ei l i3 h3 Y p hb hi3 (by omega)) ?_)
    rintro r S ⟨a,b,i4,h4,⟨rfl,rfl⟩,hi4⟩
    refine u_any 5 [] ⟨?_,trivial⟩
    refine u_op 5 rfl rfl (EOp_store rfl rfl rfl (xb1 ty_27) ?_)
    refine u_any 6 [] ⟨?_,trivial⟩
    refine u_op 6 rfl rfl (EOp_store rfl rfl rfl (xb1 ty_58) ?_)
    refine u_any 7 [] ⟨?_,trivial⟩
    refine u_op 7 rfl rfl (EOp_store rfl rfl rfl (xb1 ty_60) ?_)
    refine u_done ?_
    refine G_ret ?_
    exact⟨_,[4,5,6,8,9],rfl,rfl,Y,p,(a,b),⟨rfl,rfl⟩,hyv,hyr,hyp,hpi,hpd⟩
   ·refine u_op 4 rfl rfl (xe2 rfl rfl rfl ca_105 (c_spec_l10Item_ei l i3 h3 Y p hb hi3 (by omega)) ?_)
    rintro r S ⟨a,b,i4,h4,⟨rfl,rfl⟩,hi4⟩
    refine u_any 0 [] ⟨?_,trivial⟩
    refine u_op 0 rfl rfl (EOp_light rfl (by decide) (L_load rfl (xb0 ty_27)) ?_)
    refine u_any 5 [] ⟨?_,trivial⟩
    refine u_op 5 rfl rfl (EOp_store rfl rfl rfl (xb1 ty_27) ?_)
    refine u_any 6 [] ⟨?_,trivial⟩
    refine u_op 6 rfl rfl (EOp_store rfl rfl rfl (xb1 ty_58) ?_)
    refine u_any 7 [] ⟨?_,trivial⟩
    refine u_op 7 rfl rfl (EOp_store rfl rfl rfl (xb1 ty_60) ?_)
    refine u_done ?_
    refine G_ret ?_
    exact⟨_,[4,5,6,8,9],rfl,rfl,Y,p,(a,b),⟨rfl,rfl⟩,hyv,hyr,hyp,hpi,hpd⟩
  ·refine u_op 4 rfl rfl (xe2 rfl rfl rfl ca_105 (c_spec_l10Item_ei l i3 h3 Y p hb hi3 (by omega)) ?_)
   rintro r S ⟨a,b,i4,h4,⟨rfl,rfl⟩,hi4⟩
   refine u_any 0 [1] ⟨?_,?_,trivial⟩
   ·refine u_op 0 rfl rfl (EOp_light rfl (by decide) (L_load rfl (xb2 ty_27)) ?_)
    refine u_any 1 [5] ⟨?_,?_,trivial⟩
    ·refine u_op 1 rfl rfl (EOp_light rfl (by decide) (L_load rfl (xb2 ty_58)) ?_)
     refine u_any 5 [] ⟨?_,trivial⟩
     refine u_op 5 rfl rfl (EOp_store rfl rfl rfl (xb1 ty_27) ?_)
     refine u_any 6 [] ⟨?_,trivial⟩
     refine u_op 6 rfl rfl (EOp_store rfl rfl rfl (xb1 ty_58) ?_)
     refine u_any 7 [] ⟨?_,trivial⟩
     refine u_op 7 rfl rfl (EOp_store rfl rfl rfl (xb1 ty_60) ?_)
     refine u_done ?_
     refine G_ret ?_
     exact⟨_,[4,5,6,8,9],rfl,rfl,Y,p,(a,b),⟨rfl,rfl⟩,hyv,hyr,hyp,hpi,hpd⟩
    ·refine u_op 5 rfl rfl (EOp_store rfl rfl rfl (by first | exact s_bp ty_27 | exact s_ep ty_27) ?_)
     refine u_any 1 [] ⟨?_,trivial⟩
     refine u_op 1 rfl rfl (EOp_light rfl (by decide) (L_load rfl (xb0 ty_58)) ?_)
     refine u_any 6 [] ⟨?_,trivial⟩
     refine u_op 6 rfl rfl (EOp_store rfl rfl rfl (xb1 ty_58) ?_)
     refine u_any 7 [] ⟨?_,trivial⟩
     refine u_op 7 rfl rfl (EOp_store rfl rfl rfl (xb1 ty_60) ?_)
     refine u_done ?_
     refine G_ret ?_
     exact⟨_,[4,5,6,8,9],rfl,rfl,Y,p,(a,b),⟨rfl,rfl⟩,hyv,hyr,hyp,hpi,hpd⟩
   ·refine u_op 1 rfl rfl (EOp_light rfl (by decide) (L_load rfl (xb2 ty_58)) ?_)
    refine u_any 0 [] ⟨?_,trivial⟩
    refine u_op 0 rfl rfl (EOp_light rfl (by decide) (L_load rfl (xb0 ty_27)) ?_)
    refine u_any 5 [] ⟨?_,trivial⟩
    refine u_op 5 rfl rfl (EOp_store rfl rfl rfl (xb1 ty_27) ?_)
    refine u_any 6 [] ⟨?_,trivial⟩
    refine u_op 6 rfl rfl (EOp_store rfl rfl rfl (xb1 ty_58) ?_)
    refine u_any 7 [] ⟨?_,trivial⟩
    refine u_op 7 rfl rfl (EOp_store rfl rfl rfl (xb1 ty_60) ?_)
    refine u_done ?_
    refine G_ret ?_
    exact⟨_,[4,5,6,8,9],rfl,rfl,Y,p,(a,b),⟨rfl,rfl⟩,hyv,hyr,hyp,hpi,hpd⟩

end Go.Proofs.Ytcepgfcolmdnoaa.E
