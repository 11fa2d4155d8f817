/- Walks through functions, by program out of the session's annotations. -/
import Derived.Test.YtcepgfcolmdnoaaA152
import Derived.Test.YtcepgfcolmdnoaaA30
import Derived.Test.YtcepgfcolmdnoaaRE
namespace Go.Proofs.Ytcepgfcolmdnoaa.E
open Go Go.RowKit Go.Proofs
set_option linter.unusedVariables false
set_option linter.unusedSimpArgs false

theorem e_tidy_A80_0 {P:Program} {N:Nat} {s:Slots} {R:List Res} {Q:Exit→Slots→List Res→Prop} {c:Code} (keep:List Nat) {base:Slots} {R':List Res} (h:ECode P N c base R' Q) (hb:keepOf s keep=base:=by simp only [E.keepOf,E.get,E.ev,E.cv,E.fill',E.fill,E.slotsOf,Res.sh,AC.sh,AC.sh.shs,AV.sh,E.splice,List.map_cons,List.map_nil,List.cons_append,List.nil_append,List.append_nil,List.length_cons,List.length_nil,List.take_zero,List.drop_zero,List.take_succ_cons,List.drop_succ_cons,List.drop_nil,List.take_nil,List.set_cons_zero,List.set_cons_succ,Nat.zero_add,Nat.add_zero,Nat.reduceAdd,Nat.reduceSub,reduceIte,Nat.reduceEqDiff,E.back,E.backR,E.ix,Res.un,AC.un,AC.un.uns,AV.un,E.un,Option.map_some,Option.map_none,Option.getD_some,List.getElem?_cons_zero,List.getElem?_cons_succ,List.getElem?_nil,ints_app,ints_lenApp,pndO,pndR];rfl) (hR:R=R':=by (try simp only [E.keepOf,E.get,E.ev,E.cv,E.fill',E.fill,E.slotsOf,Res.sh,AC.sh,AC.sh.shs,AV.sh,E.splice,List.map_cons,List.map_nil,List.cons_append,List.nil_append,List.append_nil,List.length_cons,List.length_nil,List.take_zero,List.drop_zero,List.take_succ_cons,List.drop_succ_cons,List.drop_nil,List.take_nil,List.set_cons_zero,List.set_cons_succ,Nat.zero_add,Nat.add_zero,Nat.reduceAdd,Nat.reduceSub,reduceIte,Nat.reduceEqDiff,E.back,E.backR,E.ix,Res.un,AC.un,AC.un.uns,AV.un,E.un,Option.map_some,Option.map_none,Option.getD_some,List.getElem?_cons_zero,List.getElem?_cons_succ,List.getElem?_nil,ints_app,ints_lenApp,pndO,pndR]);rfl):ECode P N c s R Q:=E_tidy keep hb hR h

set_option maxRecDepth 20000 in
set_option maxHeartbeats 2000000 in
theorem c_impl_AddDelete_1 (R : List Res) (i : Nat) (a : Int) (y : Int × Int) (h1 : R[i]? = some (.box [.sc (.int .i64 a)])) : EFn Try.prog 111 [.agg [.sc (.int .i64 y.1), .sc (.int .i64 y.2)], .c (.bp i 0)] R (fun r R' => r = .c (.sc (.bool (decide (a = y.2)))) ∧ R' = R) := by
 refine E_fnM Try.func111 rfl (Nat.le_of_ble_eq_true rfl) ?_
 have e1:(R++[Res.box [AC.sc (.int .i64 y.1),AC.sc (.int .i64 y.2)]])[R.length]? = some (.box [AC.sc (.int .i64 y.1),AC.sc (.int .i64 y.2)]):=by simp
 have e2 : (R ++ [Res.box [AC.sc (.int .i64 y.1), AC.sc (.int .i64 y.2)]])[i]? = some (.box [AC.sc (.int .i64 a)]) := by
  have hi:i<R.length:=(List.getElem?_eq_some_iff.1 h1).1
  rw [List.getElem?_append_left hi];exact h1
 refine E_seq ?_
 refine E_region' (L:=[0,1]) rfl ?_
 refine x_box rfl rfl rfl rfl rfl ?_
 refine xas ?_
 refine EOps_nil ?_
 refine E_seq ?_
 refine E_region' (L:=[0,1,2,3,4]) rfl ?_
 refine x_pure rfl rfl rfl (l_field rfl fo_60_1 (hp:=pb_of e1)) ?_
 refine x_light rfl rfl rfl (L_load rfl (d_bp ty_3 (hR:=e1))) ?_
 refine x_light rfl rfl rfl (L_load rfl (d_bp ty_3 (hR:=e2))) ?_
 refine x_pure rfl rfl rfl (L_bin rfl rfl rfl rfl) ?_
 refine xas ?_
 refine EOps_nil ?_
 refine E_ret ?_
 refine⟨_,rfl,⟨by simp,fun i cs hi h=>by rw [List.getElem?_append_left hi] at h;exact h⟩,?_,by simp⟩
 exact bool_eq (by constructor<;>(intro h;have h2:=of_decide_eq_true h;exact decide_eq_true h2.symm))

set_option maxRecDepth 20000 in
set_option maxHeartbeats 2000000 in
theorem c_impl_AddDelete_y (c : Crk) (p : Pnd) (x : Int) (hb : c.rows.length ≤ 1048576 ∧ p.ins.length ≤ 1048576 ∧ p.del.length ≤ 1048576) (hf : delOk c p x = true) : EFn Try.prog 33 [.agg (crkC c), .agg (pndC p), .c (.sc (.int .i64 x))] [] (fun r S => r = .tup [(true, pndO 0 (delR c p x)), (false, [.sc (.bool (delOk c p x))])] ∧ S = pndR 3 60 (delR c p x)) := by
 refine E_fn Try.func33 rfl (Nat.le_of_ble_eq_true rfl) ?_
 have hok:isPnd c p=true∧isPnd c (delN p x)=true:=by simpa [delOk] using hf
 refine E_seq ?_
 refine E_region' (L:=[0,1,2,3,4]) rfl ?_
 refine x_box rfl rfl rfl rfl rfl ?_
 refine x_box rfl rfl rfl rfl rfl ?_
 refine x_box rfl rfl rfl rfl rfl ?_
 refine x_alloc rfl rfl rfl rfl za_58 ?_
 refine xas ?_
 refine EOps_nil ?_
 refine E_seq ?_
 refine e_tidy_A80_0 [0,1,2,3,4,5,6,7] ?_
 refine E_region' (L:=[0,1,2,3]) rfl ?_
 refine x_light rfl rfl rfl (L_load rfl (xb0 ty_58)) ?_
 refine x_call rfl rfl rfl rfl rfl ca_106 (c_impl_copyPending p ⟨by omega,hb.2.2⟩) ?_
 rintro r S ⟨rfl,rfl⟩
 refine x_alloc rfl rfl rfl rfl za_58 ?_
 refine EOps_go rfl rfl (EOp_store rfl rfl rfl (xb1 ty_58) ?_)
 refine EOps_nil ?_
 refine E_seq ?_
 refine E_seq ?_
 refine e_tidy_A80_0 [0,1,2,3,4,5,6,7,8] ?_
 refine E_region' (L:=[0,1,2,3,4]) rfl ?_
 refine x_pure rfl rfl rfl (l_field rfl fo_58_0) ?_
 refine x_light rfl rfl rfl (L_load rfl (xb0 ty_56)) ?_
 refine x_pure rfl rfl rfl (L_func rfl rfl) ?_
 refine x_frame [2] rfl rfl rfl rfl rfl ca_110 rfl (c_slices_IndexFunc___impl_Item_impl_Item_ p.ins (fun y=>decide (x=y)) 111 [.bp 0 0] _ ca_111 (fun y _=>c_impl_AddDelete_1 _ 0 x y rfl)) ?_
 rintro r S ⟨r0,S0,⟨rfl,rfl⟩,rfl,rfl⟩
 refine xas ?_
 refine EOps_nil ?_
 refine E_seq ?_
 refine E_region' (L:=[0,1]) rfl ?_
 refine xmv ?_
 refine x_pure rfl rfl rfl (L_bin rfl rfl rfl rfl) ?_
 refine EOps_nil ?_
 refine E_cond rfl (fun hc17=>?_) (fun hc17=>?_)
 ·obtain ⟨k, hk, he⟩ := (insIx_cases p.ins x).resolve_left (by have h2 : insIx p.ins x ≥ 0 := of_decide_eq_true hc17; omega)
  have he':fIdx (fun y=>decide (x=y)) (p.ins.map (·.2))=(k:Int):=he
  rw [delN_at he] at hok
  have hrep:=c_impl_replaced_y c p ⟨p.ins.take k++p.ins.drop (k+1),p.del⟩ ⟨hb.1,by omega,by simp;omega⟩ hok.1 hok.2
  have hR:delR c p x=⟨p.ins.take k++p.ins.drop (k+1),p.del⟩:=by rw [delR,if_pos hf,delN_at he]
  rw [he']
  have hb0:p.ins.length≤1048576:=hb.2.1
  refine e_tidy_A80_0 [0,1,2,3,4,5,6,7,8,9,17] ?_
  refine E_region' (L:=[0,1,2,3,4,5,6,7]) rfl ?_
  refine x_pure rfl rfl rfl (l_field rfl fo_58_0) ?_
  refine x_light rfl rfl rfl (L_load rfl (xb0 ty_56)) ?_
  refine xmv ?_
  refine xmv ?_
  refine x_pure rfl rfl rfl xb3 ?_
  refine x_frame [4] rfl rfl rfl rfl rfl ca_112 rfl (c_delete p.ins k hk) ?_
  rintro r S ⟨r0,S0,⟨rfl,rfl⟩,rfl,rfl⟩
  refine x_pure rfl rfl rfl (l_field rfl fo_58_0) ?_
  refine EOps_go rfl rfl (EOp_store rfl rfl rfl (xb1 ty_56) ?_)
  refine EOps_nil ?_
  refine E_seq ?_
  try refine E_moveN 7 6 0 rfl rfl rfl rfl (by rw [pairs_len];simp;omega) (by omega) (cut_take hk) (pairs_isSc _) ?_
  try rw [← cut_len hk]
  refine e_tidy_A80_0 [0,1,2,3,4,5,6,7,8,9,17] ?_
  refine E_region' (L:=[0,1,2,3,4,5,6,7]) rfl ?_
  refine x_light rfl rfl rfl (L_load rfl (xb0 ty_27)) ?_
  refine x_light rfl rfl rfl (L_load rfl (xb0 ty_58)) ?_
  refine x_light rfl rfl rfl (L_load rfl (xb0 ty_58)) ?_
  refine x_frame [7,5] rfl rfl rfl rfl rfl ca_107 rfl (id hrep) ?_
  rintro r S ⟨r0,S0,⟨rfl,rfl⟩,rfl,rfl⟩
  refine x_pure rfl rfl rfl (L_extract rfl rfl) ?_
  refine x_pure rfl rfl rfl (L_extract rfl rfl) ?_
  refine EOps_go rfl rfl (EOp_store rfl rfl rfl (xb1 ty_58) ?_)
  refine xas ?_
  refine EOps_nil ?_
  refine E_ret ?_
  rw [hR,hf]
  exact⟨_,[7,5],rfl,rfl,rfl,rfl⟩
 ·have hn : insIx p.ins x < 0 := by
   have h2:¬ insIx p.ins x≥0:=of_decide_eq_false hc17
   omega
  rw [delN_no hn] at hok
  have hrep:=c_impl_replaced_y c p ⟨p.ins,p.del++[x]⟩ ⟨hb.1,by omega,by dsimp only;omega⟩ hok.1 hok.2
  have hR:delR c p x=⟨p.ins,p.del++[x]⟩:=by rw [delR,if_pos hf,delN_no hn]
  refine E_moveN 7 6 0 rfl rfl rfl rfl (pairs_len _) (Nat.le_refl _) (pairs_all _ rfl) (pairs_isSc _) ?_
  refine E_region' (L:=[0,1,2,3,4,5,6]) rfl ?_
  refine x_pure rfl rfl rfl (l_field rfl fo_58_1) ?_
  refine x_light rfl rfl rfl (L_load rfl (xb0 ty_24)) ?_
  refine x_light rfl rfl rfl (L_load rfl (xb0 ty_3)) ?_
  refine EOps_go rfl rfl (Heavy.op (H_bslice_ro rfl rfl (by decide) sl_24 ty_3 za_3 ⟨rfl,by decide⟩ (by decide) rfl rfl rfl rfl ?_))
  refine EOps_go rfl rfl (EOp_append (news:=ints [x]) rfl rfl (by decide) sl_24 ty_3 by_3 za_3 ⟨rfl,by decide⟩ rfl (by first|rfl|assumption) xb6 xb7 xb8 xb9 ?_)
  refine x_pure rfl rfl rfl (l_field rfl fo_58_1) ?_
  refine EOps_go rfl rfl (EOp_store rfl rfl rfl (xb1 ty_24) ?_)
  refine EOps_nil ?_
  refine E_seq ?_
  try refine E_moveN 7 6 0 rfl rfl rfl rfl (by rw [pairs_len];simp;omega) (by omega) (cut_take hk) (pairs_isSc _) ?_
  try rw [← cut_len hk]
  refine e_tidy_A80_0 [0,1,2,3,4,5,6,7,8,9,17] ?_
  refine E_region' (L:=[0,1,2,3,4,5,6,7]) rfl ?_
  refine x_light rfl rfl rfl (L_load rfl (xb0 ty_27)) ?_
  refine x_light rfl rfl rfl (L_load rfl (xb0 ty_58)) ?_
  refine x_light rfl rfl rfl (L_load rfl (xb0 ty_58)) ?_
  refine x_frame [7,5] rfl rfl rfl rfl rfl ca_107 rfl (id hrep) ?_
  rintro r S ⟨r0,S0,⟨rfl,rfl⟩,rfl,rfl⟩
  refine x_pure rfl rfl rfl (L_extract rfl rfl) ?_
  refine x_pure rfl rfl rfl (L_extract rfl rfl) ?_
  refine EOps_go rfl rfl (EOp_store rfl rfl rfl (xb1 ty_58) ?_)
  refine xas ?_
  refine EOps_nil ?_
  refine E_ret ?_
  rw [hR,hf]
  exact⟨_,[7,5],rfl,rfl,rfl,rfl⟩

set_option maxRecDepth 20000 in
set_option maxHeartbeats 2000000 in
theorem c_impl_AddDelete_n (c : Crk) (p : Pnd) (x : Int) (hb : c.rows.length ≤ 1048576 ∧ p.ins.length ≤ 1048576 ∧ p.del.length ≤ 1048576) (hf : delOk c p x = false) : EFn Try.prog 33 [.agg (crkC c), .agg (pndC p), .c (.sc (.int .i64 x))] [] (fun r S => r = .tup [(true, pndO 0 (delR c p x)), (false, [.sc (.bool (delOk c p x))])] ∧ S = pndR 3 60 (delR c p x)) := by
 refine E_fn Try.func33 rfl (Nat.le_of_ble_eq_true rfl) ?_
 have hok : ¬ (isPnd c p = true ∧ isPnd c (delN p x) = true) := by
  rintro⟨h1,h2⟩
  simp [delOk,h1,h2] at hf
 refine E_seq ?_
 refine E_region' (L:=[0,1,2,3,4]) rfl ?_
 refine x_box rfl rfl rfl rfl rfl ?_
 refine x_box rfl rfl rfl rfl rfl ?_
 refine x_box rfl rfl rfl rfl rfl ?_
 refine x_alloc rfl rfl rfl rfl za_58 ?_
 refine xas ?_
 refine EOps_nil ?_
 refine E_seq ?_
 refine e_tidy_A80_0 [0,1,2,3,4,5,6,7] ?_
 refine E_region' (L:=[0,1,2,3]) rfl ?_
 refine x_light rfl rfl rfl (L_load rfl (xb0 ty_58)) ?_
 refine x_call rfl rfl rfl rfl rfl ca_106 (c_impl_copyPending p ⟨by omega,hb.2.2⟩) ?_
 rintro r S ⟨rfl,rfl⟩
 refine x_alloc rfl rfl rfl rfl za_58 ?_
 refine EOps_go rfl rfl (EOp_store rfl rfl rfl (xb1 ty_58) ?_)
 refine EOps_nil ?_
 refine E_seq ?_
 refine E_seq ?_
 refine e_tidy_A80_0 [0,1,2,3,4,5,6,7,8] ?_
 refine E_region' (L:=[0,1,2,3,4]) rfl ?_
 refine x_pure rfl rfl rfl (l_field rfl fo_58_0) ?_
 refine x_light rfl rfl rfl (L_load rfl (xb0 ty_56)) ?_
 refine x_pure rfl rfl rfl (L_func rfl rfl) ?_
 refine x_frame [2] rfl rfl rfl rfl rfl ca_110 rfl (c_slices_IndexFunc___impl_Item_impl_Item_ p.ins (fun y=>decide (x=y)) 111 [.bp 0 0] _ ca_111 (fun y _=>c_impl_AddDelete_1 _ 0 x y rfl)) ?_
 rintro r S ⟨r0,S0,⟨rfl,rfl⟩,rfl,rfl⟩
 refine xas ?_
 refine EOps_nil ?_
 refine E_seq ?_
 refine E_region' (L:=[0,1]) rfl ?_
 refine xmv ?_
 refine x_pure rfl rfl rfl (L_bin rfl rfl rfl rfl) ?_
 refine EOps_nil ?_
 refine E_cond rfl (fun hc17=>?_) (fun hc17=>?_)
 ·obtain ⟨k, hk, he⟩ := (insIx_cases p.ins x).resolve_left (by have h2 : insIx p.ins x ≥ 0 := of_decide_eq_true hc17; omega)
  have he':fIdx (fun y=>decide (x=y)) (p.ins.map (·.2))=(k:Int):=he
  rw [delN_at he] at hok
  have hrep:=c_impl_replaced_n c p ⟨p.ins.take k++p.ins.drop (k+1),p.del⟩ ⟨hb.1,by omega,by simp;omega⟩ hb.2.2 hok
  have hR:delR c p x=p:=by rw [delR,if_neg (by rw [hf];simp)]
  rw [he']
  have hb0:p.ins.length≤1048576:=hb.2.1
  refine e_tidy_A80_0 [0,1,2,3,4,5,6,7,8,9,17] ?_
  refine E_region' (L:=[0,1,2,3,4,5,6,7]) rfl ?_
  refine x_pure rfl rfl rfl (l_field rfl fo_58_0) ?_
  refine x_light rfl rfl rfl (L_load rfl (xb0 ty_56)) ?_
  refine xmv ?_
  refine xmv ?_
  refine x_pure rfl rfl rfl xb3 ?_
  refine x_frame [4] rfl rfl rfl rfl rfl ca_112 rfl (c_delete p.ins k hk) ?_
  rintro r S ⟨r0,S0,⟨rfl,rfl⟩,rfl,rfl⟩
  refine x_pure rfl rfl rfl (l_field rfl fo_58_0) ?_
  refine EOps_go rfl rfl (EOp_store rfl rfl rfl (xb1 ty_56) ?_)
  refine EOps_nil ?_
  refine E_seq ?_
  try refine E_moveN 7 6 0 rfl rfl rfl rfl (by rw [pairs_len];simp;omega) (by omega) (cut_take hk) (pairs_isSc _) ?_
  try rw [← cut_len hk]
  refine e_tidy_A80_0 [0,1,2,3,4,5,6,7,8,9,17] ?_
  refine E_region' (L:=[0,1,2,3,4,5,6,7]) rfl ?_
  refine x_light rfl rfl rfl (L_load rfl (xb0 ty_27)) ?_
  refine x_light rfl rfl rfl (L_load rfl (xb0 ty_58)) ?_
  refine x_light rfl rfl rfl (L_load rfl (xb0 ty_58)) ?_
  refine x_frame [7,5] rfl rfl rfl rfl rfl ca_107 rfl (id hrep) ?_
  rintro r S ⟨r0,S0,⟨rfl,rfl⟩,rfl,rfl⟩
  refine x_pure rfl rfl rfl (L_extract rfl rfl) ?_
  refine x_pure rfl rfl rfl (L_extract rfl rfl) ?_
  refine EOps_go rfl rfl (EOp_store rfl rfl rfl (xb1 ty_58) ?_)
  refine xas ?_
  refine EOps_nil ?_
  refine E_ret ?_
  rw [hR,hf]
  exact⟨_,[8,9],rfl,rfl,rfl,rfl⟩
 ·have hn : insIx p.ins x < 0 := by
   have h2:¬ insIx p.ins x≥0:=of_decide_eq_false hc17
   omega
  rw [delN_no hn] at hok
  have hrep:=c_impl_replaced_n c p ⟨p.ins,p.del++[x]⟩ ⟨hb.1,by omega,by dsimp only;omega⟩ hb.2.2 hok
  have hR:delR c p x=p:=by rw [delR,if_neg (by rw [hf];simp)]
  refine E_moveN 7 6 0 rfl rfl rfl rfl (pairs_len _) (Nat.le_refl _) (pairs_all _ rfl) (pairs_isSc _) ?_
  refine E_region' (L:=[0,1,2,3,4,5,6]) rfl ?_
  refine x_pure rfl rfl rfl (l_field rfl fo_58_1) ?_
  refine x_light rfl rfl rfl (L_load rfl (xb0 ty_24)) ?_
  refine x_light rfl rfl rfl (L_load rfl (xb0 ty_3)) ?_
  refine EOps_go rfl rfl (Heavy.op (H_bslice_ro rfl rfl (by decide) sl_24 ty_3 za_3 ⟨rfl,by decide⟩ (by decide) rfl rfl rfl rfl ?_))
  refine EOps_go rfl rfl (EOp_append (news:=ints [x]) rfl rfl (by decide) sl_24 ty_3 by_3 za_3 ⟨rfl,by decide⟩ rfl (by first|rfl|assumption) xb6 xb7 xb8 xb9 ?_)
  refine x_pure rfl rfl rfl (l_field rfl fo_58_1) ?_
  refine EOps_go rfl rfl (EOp_store rfl rfl rfl (xb1 ty_24) ?_)
  refine EOps_nil ?_
  refine E_seq ?_
  try refine E_moveN 7 6 0 rfl rfl rfl rfl (by rw [pairs_len];simp;omega) (by omega) (cut_take hk) (pairs_isSc _) ?_
  try rw [← cut_len hk]
  refine e_tidy_A80_0 [0,1,2,3,4,5,6,7,8,9,17] ?_
  refine E_region' (L:=[0,1,2,3,4,5,6,7]) rfl ?_
  refine x_light rfl rfl rfl (L_load rfl (xb0 ty_27)) ?_
  refine x_light rfl rfl rfl (L_load rfl (xb0 ty_58)) ?_
  refine x_light rfl rfl rfl (L_load rfl (xb0 ty_58)) ?_
  refine x_frame [7,5] rfl rfl rfl rfl rfl ca_107 rfl (id hrep) ?_
  rintro r S ⟨r0,S0,⟨rfl,rfl⟩,rfl,rfl⟩
  refine x_pure rfl rfl rfl (L_extract rfl rfl) ?_
  refine x_pure rfl rfl rfl (L_extract rfl rfl) ?_
  refine EOps_go rfl rfl (EOp_store rfl rfl rfl (xb1 ty_58) ?_)
  refine xas ?_
  refine EOps_nil ?_
  refine E_ret ?_
  rw [hR,hf]
  exact⟨_,[8,9],rfl,rfl,rfl,rfl⟩

end Go.Proofs.Ytcepgfcolmdnoaa.E
