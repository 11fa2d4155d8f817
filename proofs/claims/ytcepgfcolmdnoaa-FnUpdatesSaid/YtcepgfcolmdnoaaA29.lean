/- Walks through functions, by program out of the session's annotations. -/
import Derived.Test.YtcepgfcolmdnoaaA28
import Derived.Test.YtcepgfcolmdnoaaF3
namespace Go.Proofs.Ytcepgfcolmdnoaa.E
open Go Go.RowKit Go.Proofs
set_option linter.unusedVariables false
set_option linter.unusedSimpArgs false

theorem e_tidy_A29_0 {P:Program} {N:Nat} {s:Slots} {R:List Res} {Q:Exit→Slots→List Res→Prop} {c:Code} (keep:List Nat) {base:Slots} {R':List Res} (h:ECode P N c base R' Q) (hb:keepOf s keep=base:=by simp only [E.keepOf,E.get,E.ev,E.cv,E.fill',E.fill,E.slotsOf,Res.sh,AC.sh,AC.sh.shs,AV.sh,E.splice,List.map_cons,List.map_nil,List.cons_append,List.nil_append,List.append_nil,List.length_cons,List.length_nil,List.take_zero,List.drop_zero,List.take_succ_cons,List.drop_succ_cons,List.drop_nil,List.take_nil,List.set_cons_zero,List.set_cons_succ,Nat.zero_add,Nat.add_zero,Nat.reduceAdd,Nat.reduceSub,reduceIte,Nat.reduceEqDiff,E.back,E.backR,E.ix,Res.un,AC.un,AC.un.uns,AV.un,E.un,Option.map_some,Option.map_none,Option.getD_some,List.getElem?_cons_zero,List.getElem?_cons_succ,List.getElem?_nil,pndO];rfl) (hR:R=R':=by (try simp only [E.keepOf,E.get,E.ev,E.cv,E.fill',E.fill,E.slotsOf,Res.sh,AC.sh,AC.sh.shs,AV.sh,E.splice,List.map_cons,List.map_nil,List.cons_append,List.nil_append,List.append_nil,List.length_cons,List.length_nil,List.take_zero,List.drop_zero,List.take_succ_cons,List.drop_succ_cons,List.drop_nil,List.take_nil,List.set_cons_zero,List.set_cons_succ,Nat.zero_add,Nat.add_zero,Nat.reduceAdd,Nat.reduceSub,reduceIte,Nat.reduceEqDiff,E.back,E.backR,E.ix,Res.un,AC.un,AC.un.uns,AV.un,E.un,Option.map_some,Option.map_none,Option.getD_some,List.getElem?_cons_zero,List.getElem?_cons_succ,List.getElem?_nil,pndO]);rfl):ECode P N c s R Q:=E_tidy keep hb hR h
theorem e_tidy_A29_1 {P:Program} {N:Nat} {s:Slots} {R:List Res} {Q:Exit→Slots→List Res→Prop} {c:Code} (keep:List Nat) {base:Slots} {R':List Res} (h:ECode P N c base R' Q) (hb:keepOf s keep=base:=by simp only [E.keepOf,E.get,E.ev,E.cv,E.fill',E.fill,E.slotsOf,Res.sh,AC.sh,AC.sh.shs,AV.sh,E.splice,List.map_cons,List.map_nil,List.cons_append,List.nil_append,List.append_nil,List.length_cons,List.length_nil,List.take_zero,List.drop_zero,List.take_succ_cons,List.drop_succ_cons,List.drop_nil,List.take_nil,List.set_cons_zero,List.set_cons_succ,Nat.zero_add,Nat.add_zero,Nat.reduceAdd,Nat.reduceSub,reduceIte,Nat.reduceEqDiff,E.back,E.backR,E.ix,Res.un,AC.un,AC.un.uns,AV.un,E.un,Option.map_some,Option.map_none,Option.getD_some,List.getElem?_cons_zero,List.getElem?_cons_succ,List.getElem?_nil,pndO,pndR];rfl) (hR:R=R':=by (try simp only [E.keepOf,E.get,E.ev,E.cv,E.fill',E.fill,E.slotsOf,Res.sh,AC.sh,AC.sh.shs,AV.sh,E.splice,List.map_cons,List.map_nil,List.cons_append,List.nil_append,List.append_nil,List.length_cons,List.length_nil,List.take_zero,List.drop_zero,List.take_succ_cons,List.drop_succ_cons,List.drop_nil,List.take_nil,List.set_cons_zero,List.set_cons_succ,Nat.zero_add,Nat.add_zero,Nat.reduceAdd,Nat.reduceSub,reduceIte,Nat.reduceEqDiff,E.back,E.backR,E.ix,Res.un,AC.un,AC.un.uns,AV.un,E.un,Option.map_some,Option.map_none,Option.getD_some,List.getElem?_cons_zero,List.getElem?_cons_succ,List.getElem?_nil,pndO,pndR]);rfl):ECode P N c s R Q:=E_tidy keep hb hR h

set_option maxRecDepth 20000 in
set_option maxHeartbeats 2000000 in
theorem c_impl_replaced_y (c : Crk) (p nx : Pnd) (hb : c.rows.length ≤ 1048576 ∧ p.ins.length ≤ 1048576 ∧ nx.ins.length ≤ 4194304) (hv : isPnd c p = true) (hv2 : isPnd c nx = true) : EFn Try.prog 107 [.agg (crkC c), .agg (pndC p), .agg (pndO 0 nx)] [.row 60 2 (pairs nx.ins), .row 3 1 (ints nx.del)] (fun r S => r = .tup [(true, pndO 0 nx), (false, [.sc (.bool true)])] ∧ S = [.row 60 2 (pairs nx.ins), .row 3 1 (ints nx.del)]) := by
 refine E_fn Try.func107 rfl (Nat.le_of_ble_eq_true rfl) ?_
 refine E_seq ?_
 refine E_region' (L:=[0,1,2,3,4]) rfl ?_
 refine x_box rfl rfl rfl rfl rfl ?_
 refine x_box rfl rfl rfl rfl rfl ?_
 refine x_box rfl rfl rfl rfl rfl ?_
 refine x_alloc rfl rfl rfl rfl za_58 ?_
 refine xas ?_
 refine EOps_nil ?_
 refine E_seq ?_
 refine E_seq ?_
 refine e_tidy_A29_0 [0,1,2,3,4,5,6,7] ?_
 refine E_region' (L:=[0,1,2,3,4,5,6,7,8,9]) rfl ?_
 refine x_light rfl rfl rfl (L_load rfl (xb0 ty_27)) ?_
 refine x_light rfl rfl rfl (L_load rfl (xb0 ty_58)) ?_
 refine x_call rfl rfl rfl rfl rfl ca_39 (c_impl_IsPending c p ⟨hb.1,by omega⟩) ?_
 rintro r S ⟨rfl,rfl⟩
 refine x_pure rfl rfl rfl (L_not rfl rfl) ?_
 refine xmv ?_
 refine EOps_split 12 (b:=_) rfl (fun hg12=>?_) (fun hg12=>?_)
 ·simp [hv] at hg12
 ·refine x_light rfl rfl rfl (L_load rfl (xb2 ty_27)) ?_
  refine x_light rfl rfl rfl (L_load rfl (xb0 ty_58)) ?_
  refine x_call rfl rfl rfl rfl rfl ca_39 (c_impl_IsPending c nx ⟨hb.1,by omega⟩) ?_
  rintro r S ⟨rfl,rfl⟩
  refine x_pure rfl rfl rfl (L_not rfl rfl) ?_
  refine x_pure rfl rfl rfl (L_pick rfl rfl) ?_
  refine EOps_nil ?_
  refine E_cond rfl (fun hc17=>?_) (fun hc17=>?_)
  ·simp [hv2] at hc17
  ·refine E_skip ?_
   refine E_seq ?_
   refine E_region' (L:=[0,1,2]) rfl ?_
   refine x_light rfl rfl rfl (L_load rfl (xb0 ty_58)) ?_
   refine EOps_go rfl rfl (EOp_store rfl rfl rfl (xb1 ty_58) ?_)
   refine xas ?_
   refine EOps_nil ?_
   refine E_ret ?_
   exact⟨_,[],rfl,rfl,rfl,rfl⟩

set_option maxRecDepth 20000 in
set_option maxHeartbeats 2000000 in
theorem c_impl_replaced_n (c : Crk) (p nx : Pnd) (hb : c.rows.length ≤ 1048576 ∧ p.ins.length ≤ 1048576 ∧ nx.ins.length ≤ 4194304) (hd : p.del.length ≤ 1048576) (hv : ¬ (isPnd c p = true ∧ isPnd c nx = true)) : EFn Try.prog 107 [.agg (crkC c), .agg (pndC p), .agg (pndO 0 nx)] [.row 60 2 (pairs nx.ins), .row 3 1 (ints nx.del)] (fun r S => r = .tup [(true, pndO 2 p), (false, [.sc (.bool false)])] ∧ S = [.row 60 2 (pairs nx.ins), .row 3 1 (ints nx.del), .row 60 2 (pairs p.ins), .row 3 1 (ints p.del)]) := by
 refine E_fn Try.func107 rfl (Nat.le_of_ble_eq_true rfl) ?_
 refine E_seq ?_
 refine E_region' (L:=[0,1,2,3,4]) rfl ?_
 refine x_box rfl rfl rfl rfl rfl ?_
 refine x_box rfl rfl rfl rfl rfl ?_
 refine x_box rfl rfl rfl rfl rfl ?_
 refine x_alloc rfl rfl rfl rfl za_58 ?_
 refine xas ?_
 refine EOps_nil ?_
 refine E_seq ?_
 refine E_seq ?_
 refine e_tidy_A29_1 [0,1,2,3,4,5,6,7] ?_
 refine E_region' (L:=[0,1,2,3,4,5,6,7,8,9]) rfl ?_
 refine x_light rfl rfl rfl (L_load rfl (xb0 ty_27)) ?_
 refine x_light rfl rfl rfl (L_load rfl (xb0 ty_58)) ?_
 refine x_call rfl rfl rfl rfl rfl ca_39 (c_impl_IsPending c p ⟨hb.1,by omega⟩) ?_
 rintro r S ⟨rfl,rfl⟩
 refine x_pure rfl rfl rfl (L_not rfl rfl) ?_
 refine xmv ?_
 refine EOps_split 12 (b:=_) rfl (fun hg12=>?_) (fun hg12=>?_)
 ·refine x_skip rfl rfl rfl ?_
  refine x_skip rfl rfl rfl ?_
  refine x_skip rfl rfl rfl ?_
  refine x_skip rfl rfl rfl ?_
  refine x_pure rfl rfl rfl (L_pick rfl rfl) ?_
  refine EOps_nil ?_
  refine E_cond rfl (fun hc17=>?_) (fun hc17=>?_)
  ·refine E_seq ?_
   refine e_tidy_A29_1 [0,1,2,3,4,5,6,7,17] ?_
   refine E_region' (L:=[0,1,2,3]) rfl ?_
   refine x_light rfl rfl rfl (L_load rfl (xb0 ty_58)) ?_
   refine x_call rfl rfl rfl rfl rfl ca_106 (c_impl_copyPending p ⟨hb.2.1,hd⟩) ?_
   rintro r S ⟨rfl,rfl⟩
   refine EOps_go rfl rfl (EOp_store rfl rfl rfl (xb1 ty_58) ?_)
   refine xas ?_
   refine EOps_nil ?_
   refine E_ret ?_
   exact⟨_,[6,7],rfl,rfl,rfl,rfl⟩
  ·exact Bool.noConfusion (hc17:true=false)
 ·refine x_light rfl rfl rfl (L_load rfl (xb2 ty_27)) ?_
  refine x_light rfl rfl rfl (L_load rfl (xb0 ty_58)) ?_
  refine x_call rfl rfl rfl rfl rfl ca_39 (c_impl_IsPending c nx ⟨hb.1,by omega⟩) ?_
  rintro r S ⟨rfl,rfl⟩
  refine x_pure rfl rfl rfl (L_not rfl rfl) ?_
  refine x_pure rfl rfl rfl (L_pick rfl rfl) ?_
  refine EOps_nil ?_
  refine E_cond rfl (fun hc17=>?_) (fun hc17=>?_)
  ·refine E_seq ?_
   refine e_tidy_A29_1 [0,1,2,3,4,5,6,7,17] ?_
   refine E_region' (L:=[0,1,2,3]) rfl ?_
   refine x_light rfl rfl rfl (L_load rfl (xb0 ty_58)) ?_
   refine x_call rfl rfl rfl rfl rfl ca_106 (c_impl_copyPending p ⟨hb.2.1,hd⟩) ?_
   rintro r S ⟨rfl,rfl⟩
   refine EOps_go rfl rfl (EOp_store rfl rfl rfl (xb1 ty_58) ?_)
   refine xas ?_
   refine EOps_nil ?_
   refine E_ret ?_
   exact⟨_,[6,7],rfl,rfl,rfl,rfl⟩
  ·exact absurd ⟨by simpa using hg12,by simpa using hc17⟩ hv

set_option maxRecDepth 20000 in
set_option maxHeartbeats 2000000 in
theorem c_spec_l11Copy (p : Pnd) (h : p.ins.length ≤ 1048576 ∧ p.del.length ≤ 1048576) : EFn Try.prog 108 [.agg (pndC p)] [] (fun r S => r = .agg (pndO 0 p) ∧ S = pndR 3 60 p) := by
 refine E_fn Try.func108 rfl (Nat.le_of_ble_eq_true rfl) ?_
 refine E_G (n:=0) rfl ?_
 refine G_seq ?_
 refine G_region' (L:=[0,1]) rfl ?_
 refine x_box rfl rfl rfl rfl rfl ?_
 refine x_alloc rfl rfl rfl rfl za_58 ?_
 refine EOps_nil ?_
 refine G_seq ?_
 refine G_drawT mixed ?_
 refine t_old 1 rfl rfl rfl (l_field rfl fo_58_0) ?_
 refine t_light 2 rfl rfl rfl (L_load rfl (xb0 ty_56)) ?_
 refine t_old 5 rfl rfl rfl (l_field rfl fo_58_1) ?_
 refine t_light 6 rfl rfl rfl (L_load rfl (xb0 ty_24)) ?_
 refine t_fresh 2 [(⟨some (0,3),3,6,60⟩,_),(⟨some (4,7),7,10,3⟩,_)] [(3,.any),(6,.any),(7,.any),(10,.any)] [0,3,4,7] ⟨.two rfl rfl rfl (by decide) (F_bslice rfl sl_56 ty_60) rfl rfl rfl (by decide) (f_append (news:=pairs p.ins) (m:=(p.ins).length) rfl sl_56 ty_60 by_60 za_60 (pairs_len _)),.two rfl rfl rfl (by decide) (F_bslice rfl sl_24 ty_3) rfl rfl rfl (by decide) (f_append (news:=ints p.del) (m:=(p.del).length) rfl sl_24 ty_3 by_3 za_3 (ints_len _)),trivial⟩ ?_
 refine fk_cons ?_
 rintro r S ⟨rfl,rfl⟩
 refine fk_cons ?_
 rintro r S ⟨rfl,rfl⟩
 refine fk_nil ?_
 refine t_pure 8 rfl rfl rfl (L_build rfl bd_58 rfl rfl) ?_
 refine t_turn 9 rfl rfl (EOp_store rfl rfl rfl (xb1 ty_58) ?_)
 refine T_done (by kernel_rfl) ?_
 refine G_ret ?_
 exact⟨_,[2,3],rfl,rfl,rfl,rfl⟩

end Go.Proofs.Ytcepgfcolmdnoaa.E
