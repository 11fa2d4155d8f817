/- Walks through functions, by program out of the session's annotations. -/
import Derived.Test.YtjbbjicochipeaaGreatA120
import Derived.Test.YtjbbjicochipeaaGreatA08
import Derived.Test.YtjbbjicochipeaaGreatA52
import Derived.Test.YtjbbjicochipeaaGreatA90
import Derived.Test.YtjbbjicochipeaaGreatF4
namespace Go.Proofs.YtjbbjicochipeaaGreat.E
open Go Go.RowKit Go.Proofs
set_option linter.unusedVariables false
set_option linter.unusedSimpArgs false

theorem e_for_A195_1 {P : Program} {N : Nat} {s : Slots} {R : List Res} {Q : Exit → Slots → List Res → Prop} {α : Type} {c : Code} (keep : List Nat) (mods : α → Slots) (Rf : α → List Res) (I : α → Prop) (m : α → Nat) (x0 : α) {base : Slots} (h0 : I x0) (hR : R = Rf x0) (h1 : chk s (mods x0))
  (round:∀ x,I x→ECode P N c (mods x++base) (Rf x) (EThen (fun s' R'=>∃ y,m y<m x∧I y∧R'=Rf y∧chk s' (mods y)∧chk s' base) Q)) (hb:keepOf s keep=base:=by simp only [E.keepOf,E.get,E.ev,E.cv,E.fill',E.fill,E.slotsOf,Res.sh,AC.sh,AC.sh.shs,AV.sh,E.splice,List.map_cons,List.map_nil,List.cons_append,List.nil_append,List.append_nil,List.length_cons,List.length_nil,List.take_zero,List.drop_zero,List.take_succ_cons,List.drop_succ_cons,List.drop_nil,List.take_nil,List.set_cons_zero,List.set_cons_succ,Nat.zero_add,Nat.add_zero,Nat.reduceAdd,Nat.reduceSub,reduceIte,Nat.reduceEqDiff,E.back,E.backR,E.ix,Res.un,AC.un,AC.un.uns,AV.un,E.un,Option.map_some,Option.map_none,Option.getD_some,List.getElem?_cons_zero,List.getElem?_cons_succ,List.getElem?_nil,curC];rfl):ECode P N (.loop c) s R Q:=E_for keep mods Rf I m x0 hb h0 hR h1 round
theorem e_tidy_A195_2 {P:Program} {N:Nat} {s:Slots} {R:List Res} {Q:Exit→Slots→List Res→Prop} {c:Code} (keep:List Nat) {base:Slots} {R':List Res} (h:ECode P N c base R' Q) (hb:keepOf s keep=base:=by simp only [E.keepOf,E.get,E.ev,E.cv,E.fill',E.fill,E.slotsOf,Res.sh,AC.sh,AC.sh.shs,AV.sh,E.splice,List.map_cons,List.map_nil,List.cons_append,List.nil_append,List.append_nil,List.length_cons,List.length_nil,List.take_zero,List.drop_zero,List.take_succ_cons,List.drop_succ_cons,List.drop_nil,List.take_nil,List.set_cons_zero,List.set_cons_succ,Nat.zero_add,Nat.add_zero,Nat.reduceAdd,Nat.reduceSub,reduceIte,Nat.reduceEqDiff,E.back,E.backR,E.ix,Res.un,AC.un,AC.un.uns,AV.un,E.un,Option.map_some,Option.map_none,Option.getD_some,List.getElem?_cons_zero,List.getElem?_cons_succ,List.getElem?_nil,curC,crkO];rfl) (hR:R=R':=by (try simp only [E.keepOf,E.get,E.ev,E.cv,E.fill',E.fill,E.slotsOf,Res.sh,AC.sh,AC.sh.shs,AV.sh,E.splice,List.map_cons,List.map_nil,List.cons_append,List.nil_append,List.append_nil,List.length_cons,List.length_nil,List.take_zero,List.drop_zero,List.take_succ_cons,List.drop_succ_cons,List.drop_nil,List.take_nil,List.set_cons_zero,List.set_cons_succ,Nat.zero_add,Nat.add_zero,Nat.reduceAdd,Nat.reduceSub,reduceIte,Nat.reduceEqDiff,E.back,E.backR,E.ix,Res.un,AC.un,AC.un.uns,AV.un,E.un,Option.map_some,Option.map_none,Option.getD_some,List.getElem?_cons_zero,List.getElem?_cons_succ,List.getElem?_nil,curC,crkO]);rfl):ECode P N c s R Q:=E_tidy keep hb hR h
theorem g_tidy_A195_3 {P:Program} {N n:Nat} {s:Slots} {R:List Res} {Q:Exit→Slots→List Res→Prop} {c:Code} (keep:List Nat) {base:Slots} {R':List Res} (h:GCode P N n c base R' Q) (hb:keepOf s keep=base:=by simp only [E.keepOf,E.get,E.ev,E.cv,E.fill',E.fill,E.slotsOf,Res.sh,AC.sh,AC.sh.shs,AV.sh,E.splice,List.map_cons,List.map_nil,List.cons_append,List.nil_append,List.append_nil,List.length_cons,List.length_nil,List.take_zero,List.drop_zero,List.take_succ_cons,List.drop_succ_cons,List.drop_nil,List.take_nil,List.set_cons_zero,List.set_cons_succ,Nat.zero_add,Nat.add_zero,Nat.reduceAdd,Nat.reduceSub,reduceIte,Nat.reduceEqDiff,E.back,E.backR,E.ix,Res.un,AC.un,AC.un.uns,AV.un,E.un,Option.map_some,Option.map_none,Option.getD_some,List.getElem?_cons_zero,List.getElem?_cons_succ,List.getElem?_nil,curC,crkO,crkR];rfl) (hR:R=R':=by (try simp only [E.keepOf,E.get,E.ev,E.cv,E.fill',E.fill,E.slotsOf,Res.sh,AC.sh,AC.sh.shs,AV.sh,E.splice,List.map_cons,List.map_nil,List.cons_append,List.nil_append,List.append_nil,List.length_cons,List.length_nil,List.take_zero,List.drop_zero,List.take_succ_cons,List.drop_succ_cons,List.drop_nil,List.take_nil,List.set_cons_zero,List.set_cons_succ,Nat.zero_add,Nat.add_zero,Nat.reduceAdd,Nat.reduceSub,reduceIte,Nat.reduceEqDiff,E.back,E.backR,E.ix,Res.un,AC.un,AC.un.uns,AV.un,E.un,Option.map_some,Option.map_none,Option.getD_some,List.getElem?_cons_zero,List.getElem?_cons_succ,List.getElem?_nil,curC,crkO,crkR]);rfl):GCode P N n c s R Q:=G_tidy keep hb hR h
theorem g_seqD_A195_4 {P : Program} {N n : Nat} {s : Slots} {R : List Res} {Q : Exit → Slots → List Res → Prop} {α : Type} {x y : Code} (keep : List Nat) (mods : α → Slots) (Rf : α → List Res) (I : α → Prop) {base : Slots}
  (hx:GCode P N n x s R (EThen (fun s' R'=>∃ σ,okσ n R' σ=true ∧ ∃ z,I z∧reR n σ R'=Rf z∧chk (renS n σ s') (mods z)∧chk (renS n σ s') base) Q)) (hy:∀ z,I z→GCode P N n y (mods z++base) (Rf z) Q) (hb:keepOf s keep=base:=by simp only [E.keepOf,E.get,E.ev,E.cv,E.fill',E.fill,E.slotsOf,Res.sh,AC.sh,AC.sh.shs,AV.sh,E.splice,List.map_cons,List.map_nil,List.cons_append,List.nil_append,List.append_nil,List.length_cons,List.length_nil,List.take_zero,List.drop_zero,List.take_succ_cons,List.drop_succ_cons,List.drop_nil,List.take_nil,List.set_cons_zero,List.set_cons_succ,Nat.zero_add,Nat.add_zero,Nat.reduceAdd,Nat.reduceSub,reduceIte,Nat.reduceEqDiff,E.back,E.backR,E.ix,Res.un,AC.un,AC.un.uns,AV.un,E.un,Option.map_some,Option.map_none,Option.getD_some,List.getElem?_cons_zero,List.getElem?_cons_succ,List.getElem?_nil,curC,crkO,crkR];rfl):GCode P N n (.seq x y) s R Q:=G_seqD keep mods Rf I hb hx hy
theorem g_forD_A195_5 {P : Program} {N n : Nat} {s : Slots} {R : List Res} {Q : Exit → Slots → List Res → Prop} {α : Type} {c : Code} (keep : List Nat) (mods : α → Slots) (Rf : α → List Res) (I : α → Prop) (m : α → Nat) (x0 : α) {base : Slots} (h0 : I x0) (hR : R = Rf x0) (h1 : chk s (mods x0))
  (round:∀ x,I x→GCode P N n c (mods x++base) (Rf x) (EThen (fun s' R'=>∃ σ,okσ n R' σ=true ∧ ∃ y,m y<m x∧I y∧reR n σ R'=Rf y∧chk (renS n σ s') (mods y)∧chk (renS n σ s') base) Q)) (hb:keepOf s keep=base:=by simp only [E.keepOf,E.get,E.ev,E.cv,E.fill',E.fill,E.slotsOf,Res.sh,AC.sh,AC.sh.shs,AV.sh,E.splice,List.map_cons,List.map_nil,List.cons_append,List.nil_append,List.append_nil,List.length_cons,List.length_nil,List.take_zero,List.drop_zero,List.take_succ_cons,List.drop_succ_cons,List.drop_nil,List.take_nil,List.set_cons_zero,List.set_cons_succ,Nat.zero_add,Nat.add_zero,Nat.reduceAdd,Nat.reduceSub,reduceIte,Nat.reduceEqDiff,E.back,E.backR,E.ix,Res.un,AC.un,AC.un.uns,AV.un,E.un,Option.map_some,Option.map_none,Option.getD_some,List.getElem?_cons_zero,List.getElem?_cons_succ,List.getElem?_nil,curC,crkO,crkR];rfl):GCode P N n (.loop c) s R Q:=G_forD keep mods Rf I m x0 hb h0 hR h1 round

set_option maxRecDepth 20000 in
set_option maxHeartbeats 2000000 in
theorem c_spec_l2Values_wv (l : List Int) (i h most : Int) (hb : byL l) (hi : curOk l i) (hm : 0 ≤ most ∧ most ≤ 100000) : EFn Tryz.prog 60 [.c (.bp 0 0), .c (.sc (.int .i64 most))] [.box (curC l i h), .box [.sc (.int .i64 0), .sc (.int .i64 0), .sc (.int .i64 0)], .box [.sc (.int .i64 0), .sc (.int .i64 0), .sc (.int .i64 0)]] (fun r S => ∃ (xs : List Int) (i' h' : Int), (r = .c (.sl 3 0 xs.length xs.length) ∧ S = [.box (curC l i' h'), .box [.sc (.int .i64 0), .sc (.int .i64 0), .sc (.int .i64 0)], .box [.sc (.int .i64 0), .sc (.int .i64 0), .sc (.int .i64 0)], .row 3 1 (ints xs)]) ∧ curOk l i' ∧ (xs.length : Int) ≤ most) := by
 refine E_fn Tryz.func60 rfl (Nat.le_of_ble_eq_true rfl) ?_
 refine E_seq ?_
 refine E_region' (L:=[0]) rfl ?_
 refine xas ?_
 refine EOps_nil ?_
 refine E_seq ?_
 refine E_region' (L:=[0,1]) rfl ?_
 refine EOps_go rfl rfl (Heavy.op (H_bslice rfl rfl (by decide) sl_22 ty_3 za_3 ⟨rfl,by decide⟩ (by decide) rfl rfl rfl rfl ?_))
 refine xas ?_
 refine EOps_nil ?_
 refine E_seq ?_
 refine e_tidy_A120_0 [0,1,4,5] ?_
 refine E_region' (L:=[0,1,2,3]) rfl ?_
 refine xmv ?_
 refine EOps_go rfl rfl (Heavy.op (H_bslice rfl rfl (by decide) sl_22 ty_3 za_3 ⟨rfl,by decide⟩ (by decide) rfl rfl rfl rfl ?_))
 refine EOps_go rfl rfl (xe2 rfl rfl rfl ca_85 (c_spec_l1PickInt l i h _ 3 [3,10,30,1000] 4 hb hi (by decide) rfl rfl) ?_)
 rintro r S ⟨w,i1,h1,⟨rfl,rfl⟩,hi1,hw⟩
 have hw':0<w∧w≤1000:=by simp at hw;omega
 refine xas ?_
 refine EOps_nil ?_
 refine E_seq ?_
 refine E_seq ?_
 refine e_tidy_A120_0 [0,1,4,5,6] ?_
 refine E_region' (L:=[0,1,2,3,4]) rfl ?_
 refine xmv ?_
 refine xmv ?_
 refine p_ rfl xb3 ?_
 refine EOps_go rfl rfl (xe2 rfl rfl rfl ca_63 (c_spec_l1Below l i1 h1 (most+1) _ hb hi1 (by omega)) ?_)
 rintro r S ⟨x2,i2,h2,⟨rfl,rfl⟩,hi2,hx2⟩
 obtain⟨k,rfl⟩:∃ k:Nat,x2=(k:Int):=⟨x2.toNat,by omega⟩
 have hk1:=hx2.2.1 (by omega)
 refine xas ?_
 refine EOps_nil ?_
 refine E_block ?_
 refine e_for_A195_1 (α:=Nat × List Int × Int × Int) [0,1,4,6] (fun (n,xs,i3,h3)=>[(7,.c (.sc (.int .i64 ((n:Int))))),(5,.c (.sl 3 0 xs.length xs.length)),(8,.any)]) (fun (n,xs,i3,h3)=>[.box (curC l i3 h3),.box [.sc (.int .i64 0),.sc (.int .i64 0),.sc (.int .i64 0)],.box [.sc (.int .i64 0),.sc (.int .i64 0),.sc (.int .i64 0)],.row 3 1 (ints xs),_]) (fun (n,xs,i3,h3)=>(n:Int)+xs.length≤most∧curOk l i3) (fun (n,xs,i3,h3)=>n) ((k,[],i2,h2)) ?_ (rfl) ⟨.inr rfl,.inr rfl,.inl rfl,trivial⟩ ?_
 ·exact⟨by simp;omega,hi2⟩
 rintro⟨n,xs,i3,h3⟩ ⟨hnx,hi3⟩
 dsimp only at *
 refine E_seq ?_
 refine E_seq ?_
 refine E_region' (L:=[0,1]) rfl ?_
 refine xmv ?_
 refine p_ rfl (L_bin rfl rfl rfl rfl) ?_
 refine EOps_nil ?_
 refine E_cond rfl (fun hc18=>?_) (fun hc18=>?_)
 ·have hn1 : 0 < n := by simp at hc18; omega
  refine E_skip ?_
  refine E_seq ?_
  refine E_block ?_
  refine E_seq ?_
  refine e_tidy_A120_0 [0,1,4,5,6,7,8,18] ?_
  refine E_region' (L:=[0,1,2,3,4,5,6]) rfl ?_
  refine xmv ?_
  refine xmv ?_
  refine EOps_go rfl rfl (xe2 rfl rfl rfl ca_63 (c_spec_l1Below l i3 h3 w _ hb hi3 (by omega)) ?_)
  rintro r S ⟨x4,i4,h4,⟨rfl,rfl⟩,hi4,hx4⟩
  refine xmv ?_
  refine p_ rfl (L_quo rfl rfl rfl (by omega)) ?_
  refine p_ rfl xb6 ?_
  generalize hzz:(IntKind.i64.wrap (x4 - IntKind.i64.wrap (Int.tdiv w 3)))=zz
  refine xas ?_
  refine EOps_nil ?_
  refine E_region' (L:=[0,1,2,3,4]) rfl ?_
  refine xmv ?_
  refine xmv ?_
  refine EOps_go rfl rfl (Heavy.op (H_bslice_ro rfl rfl (by decide) sl_22 ty_3 za_3 ⟨rfl,by decide⟩ (by decide) rfl rfl rfl rfl ?_))
  refine EOps_go rfl rfl (EOp_append (news:=ints [zz]) rfl rfl (by decide) sl_22 ty_3 by_3 za_3 ⟨rfl,by decide⟩ rfl (by first|rfl|assumption) xb7 xb8 xb9 xb10 ?_)
  refine xas ?_
  refine EOps_nil ?_
  refine E_region' (L:=[0,1,2]) rfl ?_
  refine xmv ?_
  refine p_ rfl xb6 ?_
  refine xas ?_
  refine EOps_nil ?_
  refine⟨(n - 1,xs++[zz],i4,h4),?_,?_,(by dsimp only;rw [← ints_app];rfl),⟨.inr (int_eq (by first|omega|(dsimp only;omega))),.inr ((by dsimp only;rw [← ints_lenApp];rfl)),.inl rfl,trivial⟩,⟨.inr rfl,.inr rfl,.inr rfl,.inr rfl,trivial⟩⟩
  ·dsimp only;omega
  exact⟨by simp;omega,hi4⟩
 refine E_exit ?_
 refine E_seq ?_
 refine E_region' (L:=[0,1]) rfl ?_
 refine xmv ?_
 refine xas ?_
 refine EOps_nil ?_
 refine E_ret ?_
 exact⟨_,[3],rfl,rfl,xs,i3,h3,⟨rfl,rfl⟩,hi3,by omega⟩

set_option maxRecDepth 20000 in
set_option maxHeartbeats 4000000 in
theorem c_spec_l7Settings_ws (l : List Int) (i h : Int) (xs : List Int) (hb : byL l) (hi : curOk l i) : EFn Tryz.prog 62 [.c (.bp 0 0)] [.box (curC l i h), .box [.sc (.int .i64 0), .sc (.int .i64 0), .sc (.int .i64 0)], .box [.sc (.int .i64 0), .sc (.int .i64 0), .sc (.int .i64 0)], .row 3 1 (ints xs)] (fun r S => ∃ (s : Sett) (i' h' : Int), (r = .agg (setC s) ∧ S = [.box (curC l i' h'), .box [.sc (.int .i64 0), .sc (.int .i64 0), .sc (.int .i64 0)], .box [.sc (.int .i64 0), .sc (.int .i64 0), .sc (.int .i64 0)], .row 3 1 (ints xs)]) ∧ curOk l i') := by
 refine E_fn Tryz.func62 rfl (Nat.le_of_ble_eq_true rfl) ?_
 refine E_seq ?_
 refine E_region' (L:=[0]) rfl ?_
 refine x_alloc rfl rfl rfl rfl za_29 ?_
 refine EOps_nil ?_
 refine E_seq ?_
 refine e_tidy_A195_2 [0,2] ?_
 refine E_region' (L:=[0,1,2]) rfl ?_
 refine xmv ?_
 refine EOps_go rfl rfl (xe2 rfl rfl rfl ca_63 (c_spec_l1Below l i h 3 _ hb hi (by decide)) ?_)
 rintro r S ⟨x1,i1,h1,⟨rfl,rfl⟩,hi1,hx1⟩
 refine xas ?_
 refine EOps_nil ?_
 refine E_seq ?_
 refine e_tidy_A195_2 [0,2,3] ?_
 refine E_region' (L:=[0,1,2,3]) rfl ?_
 refine xmv ?_
 refine EOps_go rfl rfl (Heavy.op (H_bslice rfl rfl (by decide) sl_22 ty_3 za_3 ⟨rfl,by decide⟩ (by decide) rfl rfl rfl rfl ?_))
 refine EOps_go rfl rfl (xe2 rfl rfl rfl ca_85 (c_spec_l1PickInt l i1 h1 _ 4 [1,2,3,5,64] 5 hb hi1 (by decide) rfl rfl) ?_)
 rintro r S ⟨x2,i2,h2,⟨rfl,rfl⟩,hi2,hx2⟩
 refine xas ?_
 refine EOps_nil ?_
 refine E_seq ?_
 refine e_tidy_A195_2 [0,2,3,4] ?_
 refine E_region' (L:=[0,1,2,3,4,5]) rfl ?_
 refine xmv ?_
 refine xmv ?_
 refine xmv ?_
 refine EOps_go rfl rfl (xe2 rfl rfl rfl ca_63 (c_spec_l1Below l i2 h2 10007 _ hb hi2 (by decide)) ?_)
 rintro r S ⟨x3,i3,h3,⟨rfl,rfl⟩,hi3,hx3⟩
 refine p_ rfl (L_build rfl bd_29 rfl rfl) ?_
 refine EOps_go rfl rfl (EOp_store rfl rfl rfl (xb1 ty_29) ?_)
 refine EOps_nil ?_
 refine E_ret ?_
 exact⟨_,[],rfl,rfl,⟨x1,x2,x3⟩,i3,h3,⟨rfl,rfl⟩,hi3⟩

set_option maxRecDepth 20000 in
set_option maxHeartbeats 4000000 in
theorem c_spec_l4Value_wrv (l : List Int) (i h : Int) (xs : List Int) (st : Sett) (Y : Crk) (ls : List (Int × Int)) (hb : byL l) (hi : curOk l i) (hX : Y.vals.length ≤ 100000) : EFn Tryz.prog 87 [.c (.bp 0 0), .agg (crkO 5 Y)] [.box (curC l i h), .box [.sc (.int .i64 0), .sc (.int .i64 0), .sc (.int .i64 0)], .box [.sc (.int .i64 0), .sc (.int .i64 0), .sc (.int .i64 0)], .row 3 1 (ints xs), .box (setC st), .row 3 1 (ints Y.vals), .row 3 1 (ints Y.rows), .row 87 2 (pairs Y.piv), .box (crkO 5 Y), .row 49 2 (pairs ls), .box (crkO 5 Y), .box [.sc (.int .i64 0), .sc (.int .i64 0)]] (fun r S => ∃ (v i' h' : Int), (r = .c (.sc (.int .i64 v)) ∧ S = [.box (curC l i' h'), .box [.sc (.int .i64 0), .sc (.int .i64 0), .sc (.int .i64 0)], .box [.sc (.int .i64 0), .sc (.int .i64 0), .sc (.int .i64 0)], .row 3 1 (ints xs), .box (setC st), .row 3 1 (ints Y.vals), .row 3 1 (ints Y.rows), .row 87 2 (pairs Y.piv), .box (crkO 5 Y), .row 49 2 (pairs ls), .box (crkO 5 Y), .box [.sc (.int .i64 0), .sc (.int .i64 0)]]) ∧ curOk l i') := by
 refine E_fn Tryz.func87 rfl (Nat.le_of_ble_eq_true rfl) ?_
 refine E_seq ?_
 refine E_region' (L:=[0,1]) rfl ?_
 refine x_box rfl rfl rfl rfl rfl ?_
 refine xas ?_
 refine EOps_nil ?_
 refine E_seq ?_
 refine E_seq ?_
 refine e_tidy_A195_2 [0,1,3,4] ?_
 refine E_region' (L:=[0,1,2,3,4,5,6,7,8]) rfl ?_
 refine p_ rfl (l_field rfl fo_42_0) ?_
 refine l_ rfl (L_load rfl (xb0 ty_22)) ?_
 refine p_ rfl (l_len rfl sl_22) ?_
 refine p_ rfl (L_bin rfl rfl rfl rfl) ?_
 refine xmv ?_
 refine EOps_split 9 (b:=_) rfl (fun hg9=>?_) (fun hg9=>?_)
 ·have hn0 : 0 < Y.vals.length := by simp at hg9; omega
  refine xmv ?_
  refine EOps_go rfl rfl (xe2 rfl rfl rfl ca_61 (c_spec_l1Once l i h 4 _ hb hi (by decide)) ?_)
  rintro r S ⟨b1,i1,h1,⟨rfl,rfl⟩,hi1⟩
  refine p_ rfl (L_not rfl rfl) ?_
  refine p_ rfl (L_pick rfl rfl) ?_
  refine EOps_nil ?_
  refine E_cond rfl (fun hc13=>?_) (fun hc13=>?_)
  ·refine E_seq ?_
   refine e_tidy_A195_2 [0,1,3,4,13] ?_
   refine E_drawU mixed ?_
   refine up_ 0 rfl (l_field rfl fo_42_0) ?_
   refine up_ 2 rfl (L_move rfl) ?_
   refine up_ 3 rfl (l_field rfl fo_42_0) ?_
   refine up_ 9 rfl (L_move rfl) ?_
   refine u_any 1 [4] ⟨?_,?_,trivial⟩
   ·refine u_op 1 rfl rfl (EOp_light rfl (by decide) (L_load rfl (xb2 ty_22)) ?_)
    refine u_any 4 [] ⟨?_,trivial⟩
    refine u_op 4 rfl rfl (EOp_light rfl (by decide) (L_load rfl (xb0 ty_22)) ?_)
    refine up_ 5 rfl (l_len rfl sl_22) ?_
    refine u_any 6 [] ⟨?_,trivial⟩
    refine u_op 6 rfl rfl (xe2 rfl rfl rfl ca_63 (c_spec_l1Below l i1 h1 (Y.vals.length:Int) _ hb hi1 (by omega)) ?_)
    rintro r S ⟨x2,i2,h2,⟨rfl,rfl⟩,hi2,hx2⟩
    obtain⟨kk,rfl⟩:∃ kk:Nat,x2=(kk:Int):=⟨x2.toNat,by omega⟩
    have hk1:kk<Y.vals.length:=by have:=hx2.2.1 (by omega);omega
    obtain⟨y,hy⟩:=at_lt (l:=Y.vals) hk1
    refine up_ 7 rfl (L_index rfl rfl (xii sl_22 ty_3)) ?_
    refine u_any 8 [10] ⟨?_,?_,trivial⟩
    ·refine u_op 8 rfl rfl (EOp_light rfl (by decide) (L_load rfl (xb2 ty_3)) ?_)
     refine u_any 10 [] ⟨?_,trivial⟩
     refine u_op 10 rfl rfl (xe2 rfl rfl rfl ca_63 (c_spec_l1Below l i2 h2 3 _ hb hi2 (by decide)) ?_)
     rintro r S ⟨x3,i3,h3,⟨rfl,rfl⟩,hi3,hx3⟩
     refine up_ 11 rfl xb3 ?_
     refine up_ 12 rfl xb6 ?_
     refine up_ 13 rfl (L_assign rfl) ?_
     refine u_done ?_
     refine E_ret ?_
     first
      | exact⟨_,[],rfl,rfl,_,i3,h3,⟨rfl,rfl⟩,hi3⟩
      | exact⟨_,[],rfl,rfl,_,i4,h4,⟨rfl,rfl⟩,hi4⟩
    refine u_op 10 rfl rfl (xe2 rfl rfl rfl ca_63 (c_spec_l1Below l i2 h2 3 _ hb hi2 (by decide)) ?_)
    rintro r S ⟨x3,i3,h3,⟨rfl,rfl⟩,hi3,hx3⟩
    refine u_any 8 [] ⟨?_,trivial⟩
    refine u_op 8 rfl rfl (EOp_light rfl (by decide) (L_load rfl (xb0 ty_3)) ?_)
    refine up_ 11 rfl xb3 ?_
    refine up_ 12 rfl xb6 ?_
    refine up_ 13 rfl (L_assign rfl) ?_
    refine u_done ?_
    refine E_ret ?_
    first
     | exact⟨_,[],rfl,rfl,_,i3,h3,⟨rfl,rfl⟩,hi3⟩
     | exact⟨_,[],rfl,rfl,_,i4,h4,⟨rfl,rfl⟩,hi4⟩
   refine u_op 4 rfl rfl (EOp_light rfl (by decide) (L_load rfl (xb2 ty_22)) ?_)
   refine up_ 5 rfl (l_len rfl sl_22) ?_
   refine u_any 1 [6] ⟨?_,?_,trivial⟩
   ·refine u_op 1 rfl rfl (EOp_light rfl (by decide) (L_load rfl (xb2 ty_22)) ?_)
    refine u_any 6 [] ⟨?_,trivial⟩
    refine u_op 6 rfl rfl (xe2 rfl rfl rfl ca_63 (c_spec_l1Below l i1 h1 (Y.vals.length:Int) _ hb hi1 (by omega)) ?_)
    rintro r S ⟨x2,i2,h2,⟨rfl,rfl⟩,hi2,hx2⟩
    obtain⟨kk,rfl⟩:∃ kk:Nat,x2=(kk:Int):=⟨x2.toNat,by omega⟩
    have hk1:kk<Y.vals.length:=by have:=hx2.2.1 (by omega);omega
    obtain⟨y,hy⟩:=at_lt (l:=Y.vals) hk1
    refine up_ 7 rfl (L_index rfl rfl (xii sl_22 ty_3)) ?_
    refine u_any 8 [10] ⟨?_,?_,trivial⟩
    ·refine u_op 8 rfl rfl (EOp_light rfl (by decide) (L_load rfl (xb2 ty_3)) ?_)
     refine u_any 10 [] ⟨?_,trivial⟩
     refine u_op 10 rfl rfl (xe2 rfl rfl rfl ca_63 (c_spec_l1Below l i2 h2 3 _ hb hi2 (by decide)) ?_)
     rintro r S ⟨x3,i3,h3,⟨rfl,rfl⟩,hi3,hx3⟩
     refine up_ 11 rfl xb3 ?_
     refine up_ 12 rfl xb6 ?_
     refine up_ 13 rfl (L_assign rfl) ?_
     refine u_done ?_
     refine E_ret ?_
     first
      | exact⟨_,[],rfl,rfl,_,i3,h3,⟨rfl,rfl⟩,hi3⟩
      | exact⟨_,[],rfl,rfl,_,i4,h4,⟨rfl,rfl⟩,hi4⟩
    refine u_op 10 rfl rfl (xe2 rfl rfl rfl ca_63 (c_spec_l1Below l i2 h2 3 _ hb hi2 (by decide)) ?_)
    rintro r S ⟨x3,i3,h3,⟨rfl,rfl⟩,hi3,hx3⟩
    refine u_any 8 [] ⟨?_,trivial⟩
    refine u_op 8 rfl rfl (EOp_light rfl (by decide) (L_load rfl (xb0 ty_3)) ?_)
    refine up_ 11 rfl xb3 ?_
    refine up_ 12 rfl xb6 ?_
    refine up_ 13 rfl (L_assign rfl) ?_
    refine u_done ?_
    refine E_ret ?_
    first
     | exact⟨_,[],rfl,rfl,_,i3,h3,⟨rfl,rfl⟩,hi3⟩
     | exact⟨_,[],rfl,rfl,_,i4,h4,⟨rfl,rfl⟩,hi4⟩
   refine u_op 6 rfl rfl (xe2 rfl rfl rfl ca_63 (c_spec_l1Below l i1 h1 (Y.vals.length : Int) _ hb hi1 (by omega)) ?_)
   rintro r S ⟨x2,i2,h2,⟨rfl,rfl⟩,hi2,hx2⟩
   obtain⟨kk,rfl⟩:∃ kk:Nat,x2=(kk:Int):=⟨x2.toNat,by omega⟩
   have hk1:kk<Y.vals.length:=by have:=hx2.2.1 (by omega);omega
   obtain⟨y,hy⟩:=at_lt (l:=Y.vals) hk1
   refine u_any 1 [10] ⟨?_,?_,trivial⟩
   ·refine u_op 1 rfl rfl (EOp_light rfl (by decide) (L_load rfl (xb2 ty_22)) ?_)
    refine up_ 7 rfl (L_index rfl rfl (xii sl_22 ty_3)) ?_
    refine u_any 8 [10] ⟨?_,?_,trivial⟩
    ·refine u_op 8 rfl rfl (EOp_light rfl (by decide) (L_load rfl (xb2 ty_3)) ?_)
     refine u_any 10 [] ⟨?_,trivial⟩
     refine u_op 10 rfl rfl (xe2 rfl rfl rfl ca_63 (c_spec_l1Below l i2 h2 3 _ hb hi2 (by decide)) ?_)
     rintro r S ⟨x3,i3,h3,⟨rfl,rfl⟩,hi3,hx3⟩
     refine up_ 11 rfl xb3 ?_
     refine up_ 12 rfl xb6 ?_
     refine up_ 13 rfl (L_assign rfl) ?_
     refine u_done ?_
     refine E_ret ?_
     first
      | exact⟨_,[],rfl,rfl,_,i3,h3,⟨rfl,rfl⟩,hi3⟩
      | exact⟨_,[],rfl,rfl,_,i4,h4,⟨rfl,rfl⟩,hi4⟩
    refine u_op 10 rfl rfl (xe2 rfl rfl rfl ca_63 (c_spec_l1Below l i2 h2 3 _ hb hi2 (by decide)) ?_)
    rintro r S ⟨x3,i3,h3,⟨rfl,rfl⟩,hi3,hx3⟩
    refine u_any 8 [] ⟨?_,trivial⟩
    refine u_op 8 rfl rfl (EOp_light rfl (by decide) (L_load rfl (xb0 ty_3)) ?_)
    refine up_ 11 rfl xb3 ?_
    refine up_ 12 rfl xb6 ?_
    refine up_ 13 rfl (L_assign rfl) ?_
    refine u_done ?_
    refine E_ret ?_
    first
     | exact⟨_,[],rfl,rfl,_,i3,h3,⟨rfl,rfl⟩,hi3⟩
     | exact⟨_,[],rfl,rfl,_,i4,h4,⟨rfl,rfl⟩,hi4⟩
   refine u_op 10 rfl rfl (xe2 rfl rfl rfl ca_63 (c_spec_l1Below l i2 h2 3 _ hb hi2 (by decide)) ?_)
   rintro r S ⟨x3,i3,h3,⟨rfl,rfl⟩,hi3,hx3⟩
   refine u_any 1 [] ⟨?_,trivial⟩
   refine u_op 1 rfl rfl (EOp_light rfl (by decide) (L_load rfl (xb0 ty_22)) ?_)
   refine up_ 7 rfl (L_index rfl rfl (xii sl_22 ty_3)) ?_
   refine u_any 8 [] ⟨?_,trivial⟩
   refine u_op 8 rfl rfl (EOp_light rfl (by decide) (L_load rfl (xb0 ty_3)) ?_)
   refine up_ 11 rfl xb3 ?_
   refine up_ 12 rfl xb6 ?_
   refine up_ 13 rfl (L_assign rfl) ?_
   refine u_done ?_
   refine E_ret ?_
   first
    | exact⟨_,[],rfl,rfl,_,i3,h3,⟨rfl,rfl⟩,hi3⟩
    | exact⟨_,[],rfl,rfl,_,i4,h4,⟨rfl,rfl⟩,hi4⟩
  refine E_skip ?_
  refine E_seq ?_
  refine e_tidy_A195_2 [0,1,3,4,13] ?_
  refine E_region' (L:=[0,1,2,3]) rfl ?_
  refine xmv ?_
  refine EOps_go rfl rfl (Heavy.op (H_bslice rfl rfl (by decide) sl_22 ty_3 za_3 ⟨rfl,by decide⟩ (by decide) rfl rfl rfl rfl ?_))
  refine EOps_go rfl rfl (xe2 rfl rfl rfl ca_85 (c_spec_l1PickInt l _ _ _ 12 [0,3,-2,-1000,1000,50] 6 hb (by assumption) (by decide) rfl rfl) ?_)
  rintro r S ⟨x4,i4,h4,⟨rfl,rfl⟩,hi4,hx4⟩
  refine xas ?_
  refine EOps_nil ?_
  refine E_ret ?_
  first
   | exact⟨_,[],rfl,rfl,_,i3,h3,⟨rfl,rfl⟩,hi3⟩
   | exact⟨_,[],rfl,rfl,_,i4,h4,⟨rfl,rfl⟩,hi4⟩
 refine s_ rfl ?_
 refine s_ rfl ?_
 refine s_ rfl ?_
 refine p_ rfl (L_pick rfl rfl) ?_
 refine EOps_nil ?_
 refine E_cond rfl (fun hc13=>?_) (fun hc13=>?_)
 ·exact Bool.noConfusion (hc13:false=true)
 refine E_skip ?_
 refine E_seq ?_
 refine e_tidy_A195_2 [0,1,3,4,13] ?_
 refine E_region' (L:=[0,1,2,3]) rfl ?_
 refine xmv ?_
 refine EOps_go rfl rfl (Heavy.op (H_bslice rfl rfl (by decide) sl_22 ty_3 za_3 ⟨rfl,by decide⟩ (by decide) rfl rfl rfl rfl ?_))
 refine EOps_go rfl rfl (xe2 rfl rfl rfl ca_85 (c_spec_l1PickInt l _ _ _ 12 [0,3,-2,-1000,1000,50] 6 hb (by assumption) (by decide) rfl rfl) ?_)
 rintro r S ⟨x4,i4,h4,⟨rfl,rfl⟩,hi4,hx4⟩
 refine xas ?_
 refine EOps_nil ?_
 refine E_ret ?_
 first
  | exact⟨_,[],rfl,rfl,_,i3,h3,⟨rfl,rfl⟩,hi3⟩
  | exact⟨_,[],rfl,rfl,_,i4,h4,⟨rfl,rfl⟩,hi4⟩

set_option maxRecDepth 20000 in
set_option maxHeartbeats 4000000 in
theorem c_spec_l3Range_wrr (l : List Int) (i h : Int) (xs : List Int) (st : Sett) (Y : Crk) (ls : List (Int × Int)) (hb : byL l) (hi : curOk l i) : EFn Tryz.prog 102 [.c (.bp 0 0)] [.box (curC l i h), .box [.sc (.int .i64 0), .sc (.int .i64 0), .sc (.int .i64 0)], .box [.sc (.int .i64 0), .sc (.int .i64 0), .sc (.int .i64 0)], .row 3 1 (ints xs), .box (setC st), .row 3 1 (ints Y.vals), .row 3 1 (ints Y.rows), .row 87 2 (pairs Y.piv), .box (crkO 5 Y), .row 49 2 (pairs ls), .box (crkO 5 Y), .box [.sc (.int .i64 0), .sc (.int .i64 0)], .box [.sc (.int .i64 0), .sc (.int .i64 0)]] (fun r S => ∃ (a b i' h' : Int), (r = .agg [.sc (.int .i64 a), .sc (.int .i64 b)] ∧ S = [.box (curC l i' h'), .box [.sc (.int .i64 0), .sc (.int .i64 0), .sc (.int .i64 0)], .box [.sc (.int .i64 0), .sc (.int .i64 0), .sc (.int .i64 0)], .row 3 1 (ints xs), .box (setC st), .row 3 1 (ints Y.vals), .row 3 1 (ints Y.rows), .row 87 2 (pairs Y.piv), .box (crkO 5 Y), .row 49 2 (pairs ls), .box (crkO 5 Y), .box [.sc (.int .i64 0), .sc (.int .i64 0)], .box [.sc (.int .i64 0), .sc (.int .i64 0)]]) ∧ curOk l i') := by
 refine E_fn Tryz.func102 rfl (Nat.le_of_ble_eq_true rfl) ?_
 refine E_seq ?_
 refine E_region' (L:=[0]) rfl ?_
 refine x_alloc rfl rfl rfl rfl za_49 ?_
 refine EOps_nil ?_
 refine E_seq ?_
 refine e_tidy_A195_2 [0,2] ?_
 refine E_region' (L:=[0,1,2,3]) rfl ?_
 refine xmv ?_
 refine EOps_go rfl rfl (Heavy.op (H_bslice rfl rfl (by decide) sl_22 ty_3 za_3 ⟨rfl,by decide⟩ (by decide) rfl rfl rfl rfl ?_))
 refine EOps_go rfl rfl (xe2 rfl rfl rfl ca_85 (c_spec_l1PickInt l i h _ 13 [3,10,30,1000] 4 hb hi (by decide) rfl rfl) ?_)
 rintro r S ⟨w,i1,h1,⟨rfl,rfl⟩,hi1,hw⟩
 have hw':0<w∧w≤1000:=by simp at hw;omega
 refine xas ?_
 refine EOps_nil ?_
 refine E_seq ?_
 refine e_tidy_A195_2 [0,2,3] ?_
 refine E_region' (L:=[0,1,2,3,4,5,6]) rfl ?_
 refine xmv ?_
 refine xmv ?_
 refine EOps_go rfl rfl (xe2 rfl rfl rfl ca_63 (c_spec_l1Below l i1 h1 w _ hb hi1 (by omega)) ?_)
 rintro r S ⟨x2,i2,h2,⟨rfl,rfl⟩,hi2,hx2⟩
 refine xmv ?_
 refine p_ rfl (L_quo rfl rfl rfl (by omega)) ?_
 refine p_ rfl xb6 ?_
 refine xas ?_
 refine EOps_nil ?_
 refine E_seq ?_
 refine e_tidy_A195_2 [0,2,3,4] ?_
 refine E_region' (L:=[0,1,2,3,4,5,6,7,8]) rfl ?_
 refine xmv ?_
 refine xmv ?_
 refine xmv ?_
 refine xmv ?_
 refine EOps_go rfl rfl (xe2 rfl rfl rfl ca_63 (c_spec_l1Below l i2 h2 w _ hb hi2 (by omega)) ?_)
 rintro r S ⟨x3,i3,h3,⟨rfl,rfl⟩,hi3,hx3⟩
 refine p_ rfl xb3 ?_
 refine p_ rfl (L_min rfl rfl rfl) ?_
 refine p_ rfl (L_build rfl bd_49 rfl rfl) ?_
 refine EOps_go rfl rfl (EOp_store rfl rfl rfl (xb1 ty_49) ?_)
 refine EOps_nil ?_
 refine E_ret ?_
 exact⟨_,[],rfl,rfl,_,_,i3,h3,⟨rfl,rfl⟩,hi3⟩

set_option maxRecDepth 20000 in
set_option maxHeartbeats 4000000 in
theorem c_spec_l3Any_wrt (l : List Int) (i h : Int) (xs : List Int) (st : Sett) (Y : Crk) (ls : List (Int × Int)) (hb : byL l) (hi : curOk l i) : EFn Tryz.prog 88 [.c (.bp 0 0)] [.box (curC l i h), .box [.sc (.int .i64 0), .sc (.int .i64 0), .sc (.int .i64 0)], .box [.sc (.int .i64 0), .sc (.int .i64 0), .sc (.int .i64 0)], .row 3 1 (ints xs), .box (setC st), .row 3 1 (ints Y.vals), .row 3 1 (ints Y.rows), .row 87 2 (pairs Y.piv), .box (crkO 5 Y), .row 49 2 (pairs ls), .box (crkO 5 Y), .box [.sc (.int .i64 0), .sc (.int .i64 0)]] (fun r S => ∃ (a b i' h' : Int), (r = .agg [.sc (.int .i64 a), .sc (.int .i64 b)] ∧ S = [.box (curC l i' h'), .box [.sc (.int .i64 0), .sc (.int .i64 0), .sc (.int .i64 0)], .box [.sc (.int .i64 0), .sc (.int .i64 0), .sc (.int .i64 0)], .row 3 1 (ints xs), .box (setC st), .row 3 1 (ints Y.vals), .row 3 1 (ints Y.rows), .row 87 2 (pairs Y.piv), .box (crkO 5 Y), .row 49 2 (pairs ls), .box (crkO 5 Y), .box [.sc (.int .i64 0), .sc (.int .i64 0)]]) ∧ curOk l i') := by
 refine E_fn Tryz.func88 rfl (Nat.le_of_ble_eq_true rfl) ?_
 refine E_seq ?_
 refine E_region' (L:=[0]) rfl ?_
 refine x_alloc rfl rfl rfl rfl za_49 ?_
 refine EOps_nil ?_
 refine E_seq ?_
 refine e_tidy_A195_2 [0,2] ?_
 refine E_region' (L:=[0,1,2,3]) rfl ?_
 refine xmv ?_
 refine EOps_go rfl rfl (xe1 rfl rfl rfl ca_102 (c_spec_l3Range_wrr l i h xs st Y ls hb hi) ?_)
 rintro r S ⟨u,v,i1,h1,⟨rfl,rfl⟩,hi1⟩
 refine x_alloc rfl rfl rfl rfl za_49 ?_
 refine EOps_go rfl rfl (EOp_store rfl rfl rfl (xb1 ty_49) ?_)
 refine EOps_nil ?_
 refine E_seq ?_
 refine E_seq ?_
 refine e_tidy_A195_2 [0,2,3] ?_
 refine E_region' (L:=[0,1]) rfl ?_
 refine xmv ?_
 refine EOps_go rfl rfl (xe2 rfl rfl rfl ca_63 (c_spec_l1Below l i1 h1 10 _ hb hi1 (by decide)) ?_)
 rintro r S ⟨x2,i2,h2,⟨rfl,rfl⟩,hi2,hx2⟩
 refine EOps_nil ?_
 refine E_block ?_
 refine E_seq ?_
 refine E_region' (L:=[0,1]) rfl ?_
 refine p_ rfl (L_bin rfl rfl rfl rfl) ?_
 refine xas ?_
 refine EOps_nil ?_
 refine E_cond rfl (fun hc8=>?_) (fun hc8=>?_)
 ·refine e_tidy_A195_2 [0, 2, 3, 7, 8] ?_
  refine E_region' (L:=[0,1,2,3,4]) rfl ?_
  refine xmv ?_
  refine EOps_go rfl rfl (Heavy.op (H_bslice rfl rfl (by decide) sl_22 ty_3 za_3 ⟨rfl,by decide⟩ (by decide) rfl rfl rfl rfl ?_))
  refine EOps_go rfl rfl (xe2 rfl rfl rfl ca_85 (c_spec_l1PickInt l i2 h2 _ 13 [-1001,-1000,1000,1001] 4 hb hi2 (by decide) rfl rfl) ?_)
  rintro r S ⟨x3,i3,h3,⟨rfl,rfl⟩,hi3,hx3⟩
  refine p_ rfl (l_field rfl fo_49_0) ?_
  refine EOps_go rfl rfl (EOp_store rfl rfl rfl (xb1 ty_3) ?_)
  refine EOps_nil ?_
  refine E_seq ?_
  refine E_region' (L:=[0,1]) rfl ?_
  refine l_ rfl (L_load rfl (xb0 ty_49)) ?_
  refine EOps_go rfl rfl (EOp_store rfl rfl rfl (xb1 ty_49) ?_)
  refine EOps_nil ?_
  refine E_ret ?_
  first
   | exact⟨_,[],rfl,rfl,_,_,i2,h2,⟨rfl,rfl⟩,hi2⟩
   | exact⟨_,[],rfl,rfl,_,_,i3,h3,⟨rfl,rfl⟩,hi3⟩
 refine E_seq ?_
 refine E_region' (L:=[0,1]) rfl ?_
 refine p_ rfl (L_bin rfl rfl rfl rfl) ?_
 refine xas ?_
 refine EOps_nil ?_
 refine E_cond rfl (fun hc14=>?_) (fun hc14=>?_)
 ·refine e_tidy_A195_2 [0, 2, 3, 7, 8, 14] ?_
  refine E_region' (L:=[0,1,2,3,4]) rfl ?_
  refine xmv ?_
  refine EOps_go rfl rfl (Heavy.op (H_bslice rfl rfl (by decide) sl_22 ty_3 za_3 ⟨rfl,by decide⟩ (by decide) rfl rfl rfl rfl ?_))
  refine EOps_go rfl rfl (xe2 rfl rfl rfl ca_85 (c_spec_l1PickInt l i2 h2 _ 13 [-1001,-1000,1000,1001] 4 hb hi2 (by decide) rfl rfl) ?_)
  rintro r S ⟨x3,i3,h3,⟨rfl,rfl⟩,hi3,hx3⟩
  refine p_ rfl (l_field rfl fo_49_1) ?_
  refine EOps_go rfl rfl (EOp_store rfl rfl rfl (xb1 ty_3) ?_)
  refine EOps_nil ?_
  refine E_seq ?_
  refine E_region' (L:=[0,1]) rfl ?_
  refine l_ rfl (L_load rfl (xb0 ty_49)) ?_
  refine EOps_go rfl rfl (EOp_store rfl rfl rfl (xb1 ty_49) ?_)
  refine EOps_nil ?_
  refine E_ret ?_
  first
   | exact⟨_,[],rfl,rfl,_,_,i2,h2,⟨rfl,rfl⟩,hi2⟩
   | exact⟨_,[],rfl,rfl,_,_,i3,h3,⟨rfl,rfl⟩,hi3⟩
 refine E_skip ?_
 refine E_seq ?_
 refine E_region' (L:=[0,1]) rfl ?_
 refine l_ rfl (L_load rfl (xb0 ty_49)) ?_
 refine EOps_go rfl rfl (EOp_store rfl rfl rfl (xb1 ty_49) ?_)
 refine EOps_nil ?_
 refine E_ret ?_
 first
  | exact⟨_,[],rfl,rfl,_,_,i2,h2,⟨rfl,rfl⟩,hi2⟩
  | exact⟨_,[],rfl,rfl,_,_,i3,h3,⟨rfl,rfl⟩,hi3⟩

set_option maxRecDepth 20000 in
set_option maxHeartbeats 4000000 in
theorem c_spec_l6Range_wr (l : List Int) (i h : Int) (xs : List Int) (st : Sett) (Y : Crk) (ls : List (Int × Int)) (hb : byL l) (hi : curOk l i) (hX : Y.vals.length ≤ 100000) : EFn Tryz.prog 64 [.c (.bp 0 0), .agg (crkO 5 Y)] [.box (curC l i h), .box [.sc (.int .i64 0), .sc (.int .i64 0), .sc (.int .i64 0)], .box [.sc (.int .i64 0), .sc (.int .i64 0), .sc (.int .i64 0)], .row 3 1 (ints xs), .box (setC st), .row 3 1 (ints Y.vals), .row 3 1 (ints Y.rows), .row 87 2 (pairs Y.piv), .box (crkO 5 Y), .row 49 2 (pairs ls)] (fun r S => ∃ (a b i' h' : Int), (r = .agg [.sc (.int .i64 a), .sc (.int .i64 b)] ∧ S = [.box (curC l i' h'), .box [.sc (.int .i64 0), .sc (.int .i64 0), .sc (.int .i64 0)], .box [.sc (.int .i64 0), .sc (.int .i64 0), .sc (.int .i64 0)], .row 3 1 (ints xs), .box (setC st), .row 3 1 (ints Y.vals), .row 3 1 (ints Y.rows), .row 87 2 (pairs Y.piv), .box (crkO 5 Y), .row 49 2 (pairs ls)]) ∧ curOk l i') := by
 refine E_fn Tryz.func64 rfl (Nat.le_of_ble_eq_true rfl) ?_
 refine E_seq ?_
 refine E_region' (L:=[0,1]) rfl ?_
 refine x_box rfl rfl rfl rfl rfl ?_
 refine x_alloc rfl rfl rfl rfl za_49 ?_
 refine EOps_nil ?_
 refine E_seq ?_
 refine e_tidy_A195_2 [0,1,3,4] ?_
 refine E_region' (L:=[0,1,2,3]) rfl ?_
 refine xmv ?_
 refine l_ rfl (L_load rfl (xb0 ty_42)) ?_
 refine EOps_go rfl rfl (xe2 rfl rfl rfl ca_87 (c_spec_l4Value_wrv l i h xs st Y ls hb hi hX) ?_)
 rintro r S ⟨u,i1,h1,⟨rfl,rfl⟩,hi1⟩
 refine xas ?_
 refine EOps_nil ?_
 refine E_seq ?_
 refine e_tidy_A195_2 [0,1,3,4,5] ?_
 refine E_region' (L:=[0,1,2,3]) rfl ?_
 refine xmv ?_
 refine l_ rfl (L_load rfl (xb0 ty_42)) ?_
 refine EOps_go rfl rfl (xe2 rfl rfl rfl ca_87 (c_spec_l4Value_wrv l i1 h1 xs st Y ls hb hi1 hX) ?_)
 rintro r S ⟨v,i2,h2,⟨rfl,rfl⟩,hi2⟩
 refine xas ?_
 refine EOps_nil ?_
 refine E_seq ?_
 refine E_seq ?_
 refine e_tidy_A195_2 [0,1,3,4,5,6] ?_
 refine E_region' (L:=[0,1]) rfl ?_
 refine xmv ?_
 refine EOps_go rfl rfl (xe2 rfl rfl rfl ca_61 (c_spec_l1Once l i2 h2 12 _ hb hi2 (by decide)) ?_)
 rintro r S ⟨b3,i3,h3,⟨rfl,rfl⟩,hi3⟩
 refine EOps_nil ?_
 refine E_cond rfl (fun hc14=>?_) (fun hc14=>?_)
 ·refine E_seq ?_
  refine e_tidy_A195_2 [0,1,3,4,5,6,14] ?_
  refine E_region' (L:=[0,1,2]) rfl ?_
  refine xmv ?_
  refine EOps_go rfl rfl (xe1 rfl rfl rfl ca_88 (c_spec_l3Any_wrt l i3 h3 xs st Y ls hb hi3) ?_)
  rintro r S ⟨a4,b4,i4,h4,⟨rfl,rfl⟩,hi4⟩
  refine EOps_go rfl rfl (EOp_store rfl rfl rfl (xb1 ty_49) ?_)
  refine EOps_nil ?_
  refine E_ret ?_
  first
   | exact⟨_,[],rfl,rfl,_,_,i3,h3,⟨rfl,rfl⟩,hi3⟩
   | exact⟨_,[],rfl,rfl,_,_,i4,h4,⟨rfl,rfl⟩,hi4⟩
 refine E_skip ?_
 refine E_seq ?_
 refine E_region' (L:=[0,1,2,3,4,5,6,7]) rfl ?_
 refine xmv ?_
 refine xmv ?_
 refine p_ rfl (L_min rfl rfl rfl) ?_
 refine xmv ?_
 refine xmv ?_
 refine p_ rfl (L_max rfl rfl rfl) ?_
 refine p_ rfl (L_build rfl bd_49 rfl rfl) ?_
 refine EOps_go rfl rfl (EOp_store rfl rfl rfl (xb1 ty_49) ?_)
 refine EOps_nil ?_
 refine E_ret ?_
 first
  | exact⟨_,[],rfl,rfl,_,_,i3,h3,⟨rfl,rfl⟩,hi3⟩
  | exact⟨_,[],rfl,rfl,_,_,i4,h4,⟨rfl,rfl⟩,hi4⟩

set_option maxRecDepth 20000 in
set_option maxHeartbeats 8000000 in
theorem c_spec_l8Workload (l : List Int) (i h : Int) (hb : byL l) (hi : curOk l i) : EFn Tryz.prog 36 [.c (.bp 0 0)] [.box (curC l i h), .box [.sc (.int .i64 0), .sc (.int .i64 0), .sc (.int .i64 0)]] (fun r S => ∃ (xs : List Int) (s : Sett) (ls : List (Int × Int)) (i' h' : Int), (r = .tup [(false, [.sl 2 0 xs.length xs.length]), (true, setC s), (false, [.sl 3 0 ls.length ls.length])] ∧ S = [.box (curC l i' h'), .box [.sc (.int .i64 0), .sc (.int .i64 0), .sc (.int .i64 0)], .row 3 1 (ints xs), .row 49 2 (pairs ls)]) ∧ curOk l i' ∧ xs.length ≤ 20 ∧ ls.length ≤ 6) := by
 refine E_fn Tryz.func36 rfl (Nat.le_of_ble_eq_true rfl) ?_
 refine E_G (n:=2) rfl ?_
 refine G_seq ?_
 refine G_region' (L:=[0,1,2]) rfl ?_
 refine xas ?_
 refine x_alloc rfl rfl rfl rfl za_29 ?_
 refine xas ?_
 refine EOps_nil ?_
 refine G_seq ?_
 refine g_tidy_A195_3 [0,2,3,4] ?_
 refine G_region' (L:=[0,1,2]) rfl ?_
 refine xmv ?_
 refine EOps_go rfl rfl (xe2 rfl rfl rfl ca_60 (c_spec_l2Values_wv l i h 14 hb hi (by decide)) ?_)
 rintro r S ⟨xs,i1,h1,⟨rfl,rfl⟩,hi1,hxs⟩
 refine xas ?_
 refine EOps_nil ?_
 refine g_seqD_A195_4 (α:=List Int × Int × Int) [0,2,3,4] (fun (ys,i3,h3)=>[(5,.c (.sl 3 0 ys.length ys.length))]) (fun (ys,i3,h3)=>[.box (curC l i3 h3),.box [.sc (.int .i64 0),.sc (.int .i64 0),.sc (.int .i64 0)],.box [.sc (.int .i64 0),.sc (.int .i64 0),.sc (.int .i64 0)],.row 3 1 (ints ys)]) (fun (ys,i3,h3)=>curOk l i3∧ys.length≤20) ?_ ?_
 ·refine G_seq ?_
  refine g_tidy_A195_3 [0,2,3,4,5] ?_
  refine G_region' (L:=[0,1]) rfl ?_
  refine xmv ?_
  refine EOps_go rfl rfl (xe2 rfl rfl rfl ca_61 (c_spec_l1Once l i1 h1 4 _ hb hi1 (by decide)) ?_)
  rintro r S ⟨b2,i2,h2,⟨rfl,rfl⟩,hi2⟩
  refine EOps_nil ?_
  refine G_cond rfl (fun hc15=>?_) (fun hc15=>?_)
  ·refine G_seq ?_
   refine G_region' (L:=[0,1]) rfl ?_
   refine EOps_go rfl rfl (Heavy.op (H_bslice rfl rfl (by decide) sl_22 ty_3 za_3 ⟨rfl,by decide⟩ (by decide) rfl rfl rfl rfl ?_))
   refine xas ?_
   refine EOps_nil ?_
   refine G_seq ?_
   refine G_region' (L:=[0]) rfl ?_
   refine xas ?_
   refine EOps_nil ?_
   refine G_block ?_
   refine g_forD_A195_5 (α:=Nat × List Int) [0,2,3,4,15] (fun (k,zs)=>[(6,.c (.sc (.int .i64 ((k:Int))))),(5,.c (.sl 4 0 zs.length zs.length))]) (fun (k,zs)=>[.box (curC l i2 h2),.box [.sc (.int .i64 0),.sc (.int .i64 0),.sc (.int .i64 0)],.box [.sc (.int .i64 0),.sc (.int .i64 0),.sc (.int .i64 0)],.row 3 1 (ints xs),.row 3 1 (ints zs)]) (fun (k,zs)=>k≤20∧zs.length=k) (fun (k,zs)=>20 - k) ((0,[])) ?_ (rfl) ⟨.inr rfl,.inr rfl,trivial⟩ ?_
   ·exact⟨Nat.zero_le _,rfl⟩
   rintro⟨k,zs⟩ ⟨hk,hzk⟩
   dsimp only at *
   refine G_seq ?_
   refine G_seq ?_
   refine G_region' (L:=[0,1]) rfl ?_
   refine xmv ?_
   refine p_ rfl (L_bin rfl rfl rfl rfl) ?_
   refine EOps_nil ?_
   refine G_cond rfl (fun hc18=>?_) (fun hc18=>?_)
   ·have hk1 : k < 20 := by simp at hc18; omega
    refine G_skip ?_
    refine G_seq ?_
    refine G_block ?_
    refine G_region' (L:=[0,1,2,3,4,5]) rfl ?_
    refine xmv ?_
    refine xmv ?_
    refine p_ rfl xb6 ?_
    refine EOps_go rfl rfl (Heavy.op (H_bslice_ro rfl rfl (by decide) sl_22 ty_3 za_3 ⟨rfl,by decide⟩ (by decide) rfl rfl rfl rfl ?_))
    refine EOps_go rfl rfl (EOp_append (news:=ints [(20 - (k:Int))]) rfl rfl (by decide) sl_22 ty_3 by_3 za_3 ⟨rfl,by decide⟩ rfl (by first|rfl|assumption) xb7 xb8 xb9 xb10 ?_)
    refine xas ?_
    refine EOps_nil ?_
    refine G_region' (L:=[0,1,2]) rfl ?_
    refine xmv ?_
    refine p_ rfl xb3 ?_
    refine xas ?_
    refine EOps_nil ?_
    refine⟨[2,3,4],rfl,(k+1,zs++[(20 - (k:Int))]),?_,?_,(by dsimp only;rw [← ints_app];rfl),⟨.inr (int_eq (by first|omega|(dsimp only;omega))),.inr ((by dsimp only;rw [← ints_lenApp];rfl)),trivial⟩,⟨.inr rfl,.inr rfl,.inr rfl,.inr rfl,.inr rfl,trivial⟩⟩
    ·dsimp only;omega
    exact⟨by dsimp only;omega,by simp;omega⟩
   refine G_exit ?_
   skip
   first
    | (refine⟨[2,4],rfl,(zs,i2,h2),?_,rfl,⟨.inr rfl,trivial⟩,⟨.inr rfl,.inr rfl,.inr rfl,.inr rfl,trivial⟩⟩)
    | (refine⟨[2,3],rfl,(zs,i2,h2),?_,rfl,⟨.inr rfl,trivial⟩,⟨.inr rfl,.inr rfl,.inr rfl,.inr rfl,trivial⟩⟩)
   exact⟨hi2,by first|omega|(dsimp only;omega)⟩
  refine G_skip ?_
  skip
  first
   | (refine⟨[2,4],rfl,(xs,i2,h2),?_,rfl,⟨.inr rfl,trivial⟩,⟨.inr rfl,.inr rfl,.inr rfl,.inr rfl,trivial⟩⟩)
   | (refine⟨[2,3],rfl,(xs,i2,h2),?_,rfl,⟨.inr rfl,trivial⟩,⟨.inr rfl,.inr rfl,.inr rfl,.inr rfl,trivial⟩⟩)
  exact⟨hi2,by first|omega|(dsimp only;omega)⟩
 rintro⟨ys,i3,h3⟩ ⟨hi3,hys⟩
 refine G_seq ?_
 refine g_tidy_A195_3 [0,2,3,4,5,6,15,18] ?_
 refine G_region' (L:=[0,1,2,3]) rfl ?_
 refine xmv ?_
 refine EOps_go rfl rfl (xe1 rfl rfl rfl ca_62 (c_spec_l7Settings_ws l i3 h3 ys hb hi3) ?_)
 rintro r S ⟨st,i4,h4,⟨rfl,rfl⟩,hi4⟩
 refine x_alloc rfl rfl rfl rfl za_29 ?_
 refine EOps_go rfl rfl (EOp_store rfl rfl rfl (xb1 ty_29) ?_)
 refine EOps_nil ?_
 refine G_seq ?_
 refine g_tidy_A195_3 [0,2,3,4,5,6,7,15,18] ?_
 refine G_region' (L:=[0,1,2,3]) rfl ?_
 refine xmv ?_
 refine x_call rfl rfl rfl rfl rfl ca_24 (c_spec_NewCracker ys (by omega)) ?_
 rintro r S ⟨rfl,rfl⟩
 have hY0:(newCrk ys).vals.length≤100000:=by unfold newCrk;split<;>simp<;>omega
 generalize newCrk ys=Y at *
 refine x_alloc rfl rfl rfl rfl za_42 ?_
 refine EOps_go rfl rfl (EOp_store rfl rfl rfl (xb1 ty_42) ?_)
 refine EOps_nil ?_
 refine G_seq ?_
 refine G_region' (L:=[0,1]) rfl ?_
 refine EOps_go rfl rfl (Heavy.op (H_bslice rfl rfl (by decide) sl_31 ty_49 za_49 ⟨rfl,by decide⟩ (by decide) rfl rfl rfl rfl ?_))
 refine xas ?_
 refine EOps_nil ?_
 refine G_seq ?_
 refine G_seq ?_
 refine g_tidy_A195_3 [0,2,3,4,5,6,7,8,9,15,18] ?_
 refine G_region' (L:=[0,1,2]) rfl ?_
 refine xmv ?_
 refine EOps_go rfl rfl (xe2 rfl rfl rfl ca_63 (c_spec_l1Below l i4 h4 7 _ hb hi4 (by decide)) ?_)
 rintro r S ⟨x5,i5,h5,⟨rfl,rfl⟩,hi5,hx5⟩
 obtain⟨kk,rfl⟩:∃ kk:Nat,x5=(kk:Int):=⟨x5.toNat,by omega⟩
 have hk1:=hx5.2.1 (by omega)
 refine xas ?_
 refine EOps_nil ?_
 refine G_block ?_
 refine g_forD_A195_5 (α:=Nat × List (Int × Int) × Int × Int) [0,2,3,4,5,6,7,8,15,18] (fun (n,ls,i6,h6)=>[(10,.c (.sc (.int .i64 ((n:Int))))),(9,.c (.sl 9 0 ls.length ls.length))]) (fun (n,ls,i6,h6)=>[.box (curC l i6 h6),.box [.sc (.int .i64 0),.sc (.int .i64 0),.sc (.int .i64 0)],.box [.sc (.int .i64 0),.sc (.int .i64 0),.sc (.int .i64 0)],.row 3 1 (ints ys),.box (setC st),.row 3 1 (ints Y.vals),.row 3 1 (ints Y.rows),.row 87 2 (pairs Y.piv),.box (crkO 5 Y),.row 49 2 (pairs ls)]) (fun (n,ls,i6,h6)=>n+ls.length≤6∧curOk l i6) (fun (n,ls,i6,h6)=>n) ((kk,[],i5,h5)) ?_ (rfl) ⟨.inr rfl,.inr rfl,trivial⟩ ?_
 ·exact⟨by simp;omega,hi5⟩
 rintro⟨n,ls,i6,h6⟩ ⟨hnl,hi6⟩
 dsimp only at *
 refine G_seq ?_
 refine G_seq ?_
 refine G_region' (L:=[0,1]) rfl ?_
 refine xmv ?_
 refine p_ rfl (L_bin rfl rfl rfl rfl) ?_
 refine EOps_nil ?_
 refine G_cond rfl (fun hc34=>?_) (fun hc34=>?_)
 ·have hn1 : 0 < n := by simp at hc34; omega
  refine G_skip ?_
  refine G_seq ?_
  refine G_block ?_
  refine G_seq ?_
  refine g_tidy_A195_3 [0,2,3,4,5,6,7,8,9,10,11,15,18,34] ?_
  refine G_region' (L:=[0,1,2,3,4]) rfl ?_
  refine xmv ?_
  refine l_ rfl (L_load rfl (xb0 ty_42)) ?_
  refine EOps_go rfl rfl (xe2 rfl rfl rfl ca_64 (c_spec_l6Range_wr l i6 h6 ys st Y ls hb hi6 hY0) ?_)
  rintro r S ⟨a,b,i7,h7,⟨rfl,rfl⟩,hi7⟩
  refine x_alloc rfl rfl rfl rfl za_49 ?_
  refine EOps_go rfl rfl (EOp_store rfl rfl rfl (xb1 ty_49) ?_)
  refine EOps_nil ?_
  refine G_region' (L:=[0,1,2,3,4]) rfl ?_
  refine xmv ?_
  refine l_ rfl (L_load rfl (xb0 ty_49)) ?_
  refine EOps_go rfl rfl (Heavy.op (H_bslice_ro rfl rfl (by decide) sl_31 ty_49 za_49 ⟨rfl,by decide⟩ (by decide) rfl rfl rfl rfl ?_))
  refine EOps_go rfl rfl (EOp_append (news:=pairs [(a,b)]) rfl rfl (by decide) sl_31 ty_49 by_49 za_49 ⟨rfl,by decide⟩ rfl (by first|rfl|assumption) xb7 xb8 xb9 xb10 ?_)
  refine xas ?_
  refine EOps_nil ?_
  refine G_region' (L:=[0,1,2]) rfl ?_
  refine xmv ?_
  refine p_ rfl xb6 ?_
  refine xas ?_
  refine EOps_nil ?_
  refine⟨[2,3,4,5,6,7,8,9],rfl,(n - 1,ls++[(a,b)],i7,h7),?_,?_,(by dsimp only;rw [← pairs_app];rfl),⟨.inr (int_eq (by first|omega|(dsimp only;omega))),.inr ((by dsimp only;rw [← pairs_lenApp];rfl)),trivial⟩,⟨.inr rfl,.inr rfl,.inr rfl,.inr rfl,.inr rfl,.inr rfl,.inr rfl,.inr rfl,.inr rfl,.inr rfl,trivial⟩⟩
  ·dsimp only;omega
  exact⟨by simp;omega,hi7⟩
 refine G_exit ?_
 refine G_seq ?_
 refine G_drawT mixed ?_
 refine tj_ 0 rfl (L_move rfl) ?_
 refine tl_ 1 rfl (L_load rfl (xb0 ty_29)) ?_
 refine tj_ 2 rfl (L_move rfl) ?_
 refine tj_ 3 rfl (L_assign rfl) ?_
 refine t_turn 4 rfl rfl (EOp_store rfl rfl rfl (xb1 ty_29) ?_)
 refine tj_ 5 rfl (L_assign rfl) ?_
 refine T_done (by kernel_rfl) ?_
 refine G_ret ?_
 exact⟨_,[3,9],rfl,rfl,ys,st,ls,i6,h6,⟨rfl,rfl⟩,hi6,hys,by omega⟩

set_option maxRecDepth 20000 in
set_option maxHeartbeats 4000000 in
theorem c_spec_DrawRunQueries (l : List Int) (hb : byL l) : EFn Tryz.prog 14 [.c (.ro (bytes l))] [] (fun r S => ∃ (xs : List Int) (s : Sett) (ls : List (Int × Int)), (r = .tup [(false, [.sl 0 0 xs.length xs.length]), (true, setC s), (false, [.sl 1 0 ls.length ls.length])] ∧ S = [.row 3 1 (ints xs), .row 49 2 (pairs ls)]) ∧ xs.length ≤ 20 ∧ ls.length ≤ 6) := by
 refine E_fn Tryz.func14 rfl (Nat.le_of_ble_eq_true rfl) ?_
 refine E_G (n:=0) rfl ?_
 refine G_seq ?_
 refine G_region' (L:=[0,1,2]) rfl ?_
 refine xas ?_
 refine x_alloc rfl rfl rfl rfl za_29 ?_
 refine xas ?_
 refine EOps_nil ?_
 refine G_seq ?_
 refine g_tidy_A195_3 [0,2,3,4] ?_
 refine G_cut (L1:=[0,1]) (L2:=[2,3,4,5,6,7,8,9,10]) rfl ?_
 refine xmv ?_
 refine EOps_go rfl rfl (xe1 rfl rfl rfl ca_37 (c_spec_l1New l _ hb) ?_)
 rintro r S ⟨h1,rfl,rfl⟩
 refine EOps_nil ?_
 refine GOps_drop [0,2,3,4,10] [1,0] rfl rfl rfl ?_
 refine GOps_E ?_
 refine EOps_go rfl rfl (xe1 rfl rfl rfl ca_36 (c_spec_l8Workload l 0 h1 hb (by unfold curOk;omega)) ?_)
 rintro r S ⟨xs,s,ls,i2,h2,⟨rfl,rfl⟩,hi2,hxs,hls⟩
 refine xmv ?_
 refine p_ rfl (L_extract rfl rfl) ?_
 refine p_ rfl (L_extract rfl rfl) ?_
 refine p_ rfl (L_extract rfl rfl) ?_
 refine x_alloc rfl rfl rfl rfl za_29 ?_
 refine xas ?_
 refine EOps_go rfl rfl (EOp_store rfl rfl rfl (xb1 ty_29) ?_)
 refine xas ?_
 refine EOps_nil ?_
 refine G_seq ?_
 refine G_drawT mixed ?_
 refine tj_ 0 rfl (L_move rfl) ?_
 refine tl_ 1 rfl (L_load rfl (xb0 ty_29)) ?_
 refine tj_ 2 rfl (L_move rfl) ?_
 refine tj_ 3 rfl (L_assign rfl) ?_
 refine t_turn 4 rfl rfl (EOp_store rfl rfl rfl (xb1 ty_29) ?_)
 refine tj_ 5 rfl (L_assign rfl) ?_
 refine T_done (by kernel_rfl) ?_
 refine G_ret ?_
 exact⟨_,[2,3],rfl,rfl,xs,s,ls,⟨rfl,rfl⟩,hxs,hls⟩

end Go.Proofs.YtjbbjicochipeaaGreat.E
