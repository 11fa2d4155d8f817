/- Walks through functions, by program out of the session's annotations. -/
import Derived.Test.YtlodlnbhjghjoaaGreatA129
namespace Go.Proofs.YtlodlnbhjghjoaaGreat.E
open Go Go.RowKit Go.Proofs
set_option linter.unusedVariables false
set_option linter.unusedSimpArgs false

theorem e_for_A121_1 {P : Program} {N : Nat} {s : Slots} {R : List Res} {Q : Exit → Slots → List Res → Prop} {α : Type} {c : Code} (keep : List Nat) (mods : α → Slots) (Rf : α → List Res) (I : α → Prop) (m : α → Nat) (x0 : α) {base : Slots} (h0 : I x0) (hR : R = Rf x0) (h1 : chk s (mods x0))
  (round:∀ x,I x→ECode P N c (mods x++base) (Rf x) (EThen (fun s' R'=>∃ y,m y<m x∧I y∧R'=Rf y∧chk s' (mods y)∧chk s' base) Q)) (hb:keepOf s keep=base:=by simp only [E.keepOf,E.get,E.ev,E.cv,E.fill',E.fill,E.slotsOf,Res.sh,AC.sh,AC.sh.shs,AV.sh,E.splice,List.map_cons,List.map_nil,List.cons_append,List.nil_append,List.append_nil,List.length_cons,List.length_nil,List.take_zero,List.drop_zero,List.take_succ_cons,List.drop_succ_cons,List.drop_nil,List.take_nil,List.set_cons_zero,List.set_cons_succ,Nat.zero_add,Nat.add_zero,Nat.reduceAdd,Nat.reduceSub,reduceIte,Nat.reduceEqDiff,E.back,E.backR,E.ix,Res.un,AC.un,AC.un.uns,AV.un,E.un,Option.map_some,Option.map_none,Option.getD_some,List.getElem?_cons_zero,List.getElem?_cons_succ,List.getElem?_nil,curC];rfl):ECode P N (.loop c) s R Q:=E_for keep mods Rf I m x0 hb h0 hR h1 round
theorem e_tidy_A121_2 {P:Program} {N:Nat} {s:Slots} {R:List Res} {Q:Exit→Slots→List Res→Prop} {c:Code} (keep:List Nat) {base:Slots} {R':List Res} (h:ECode P N c base R' Q) (hb:keepOf s keep=base:=by simp only [E.keepOf,E.get,E.ev,E.cv,E.fill',E.fill,E.slotsOf,Res.sh,AC.sh,AC.sh.shs,AV.sh,E.splice,List.map_cons,List.map_nil,List.cons_append,List.nil_append,List.append_nil,List.length_cons,List.length_nil,List.take_zero,List.drop_zero,List.take_succ_cons,List.drop_succ_cons,List.drop_nil,List.take_nil,List.set_cons_zero,List.set_cons_succ,Nat.zero_add,Nat.add_zero,Nat.reduceAdd,Nat.reduceSub,reduceIte,Nat.reduceEqDiff,E.back,E.backR,E.ix,Res.un,AC.un,AC.un.uns,AV.un,E.un,Option.map_some,Option.map_none,Option.getD_some,List.getElem?_cons_zero,List.getElem?_cons_succ,List.getElem?_nil,curC,crkO];rfl) (hR:R=R':=by (try simp only [E.keepOf,E.get,E.ev,E.cv,E.fill',E.fill,E.slotsOf,Res.sh,AC.sh,AC.sh.shs,AV.sh,E.splice,List.map_cons,List.map_nil,List.cons_append,List.nil_append,List.append_nil,List.length_cons,List.length_nil,List.take_zero,List.drop_zero,List.take_succ_cons,List.drop_succ_cons,List.drop_nil,List.take_nil,List.set_cons_zero,List.set_cons_succ,Nat.zero_add,Nat.add_zero,Nat.reduceAdd,Nat.reduceSub,reduceIte,Nat.reduceEqDiff,E.back,E.backR,E.ix,Res.un,AC.un,AC.un.uns,AV.un,E.un,Option.map_some,Option.map_none,Option.getD_some,List.getElem?_cons_zero,List.getElem?_cons_succ,List.getElem?_nil,curC,crkO]);rfl):ECode P N c s R Q:=E_tidy keep hb hR h
theorem g_tidy_A121_3 {P:Program} {N n:Nat} {s:Slots} {R:List Res} {Q:Exit→Slots→List Res→Prop} {c:Code} (keep:List Nat) {base:Slots} {R':List Res} (h:GCode P N n c base R' Q) (hb:keepOf s keep=base:=by simp only [E.keepOf,E.get,E.ev,E.cv,E.fill',E.fill,E.slotsOf,Res.sh,AC.sh,AC.sh.shs,AV.sh,E.splice,List.map_cons,List.map_nil,List.cons_append,List.nil_append,List.append_nil,List.length_cons,List.length_nil,List.take_zero,List.drop_zero,List.take_succ_cons,List.drop_succ_cons,List.drop_nil,List.take_nil,List.set_cons_zero,List.set_cons_succ,Nat.zero_add,Nat.add_zero,Nat.reduceAdd,Nat.reduceSub,reduceIte,Nat.reduceEqDiff,E.back,E.backR,E.ix,Res.un,AC.un,AC.un.uns,AV.un,E.un,Option.map_some,Option.map_none,Option.getD_some,List.getElem?_cons_zero,List.getElem?_cons_succ,List.getElem?_nil,curC,crkO,crkR];rfl) (hR:R=R':=by (try simp only [E.keepOf,E.get,E.ev,E.cv,E.fill',E.fill,E.slotsOf,Res.sh,AC.sh,AC.sh.shs,AV.sh,E.splice,List.map_cons,List.map_nil,List.cons_append,List.nil_append,List.append_nil,List.length_cons,List.length_nil,List.take_zero,List.drop_zero,List.take_succ_cons,List.drop_succ_cons,List.drop_nil,List.take_nil,List.set_cons_zero,List.set_cons_succ,Nat.zero_add,Nat.add_zero,Nat.reduceAdd,Nat.reduceSub,reduceIte,Nat.reduceEqDiff,E.back,E.backR,E.ix,Res.un,AC.un,AC.un.uns,AV.un,E.un,Option.map_some,Option.map_none,Option.getD_some,List.getElem?_cons_zero,List.getElem?_cons_succ,List.getElem?_nil,curC,crkO,crkR]);rfl):GCode P N n c s R Q:=G_tidy keep hb hR h
theorem g_forD_A121_4 {P : Program} {N n : Nat} {s : Slots} {R : List Res} {Q : Exit → Slots → List Res → Prop} {α : Type} {c : Code} (keep : List Nat) (mods : α → Slots) (Rf : α → List Res) (I : α → Prop) (m : α → Nat) (x0 : α) {base : Slots} (h0 : I x0) (hR : R = Rf x0) (h1 : chk s (mods x0))
  (round:∀ x,I x→GCode P N n c (mods x++base) (Rf x) (EThen (fun s' R'=>∃ σ,okσ n R' σ=true ∧ ∃ y,m y<m x∧I y∧reR n σ R'=Rf y∧chk (renS n σ s') (mods y)∧chk (renS n σ s') base) Q)) (hb:keepOf s keep=base:=by simp only [E.keepOf,E.get,E.ev,E.cv,E.fill',E.fill,E.slotsOf,Res.sh,AC.sh,AC.sh.shs,AV.sh,E.splice,List.map_cons,List.map_nil,List.cons_append,List.nil_append,List.append_nil,List.length_cons,List.length_nil,List.take_zero,List.drop_zero,List.take_succ_cons,List.drop_succ_cons,List.drop_nil,List.take_nil,List.set_cons_zero,List.set_cons_succ,Nat.zero_add,Nat.add_zero,Nat.reduceAdd,Nat.reduceSub,reduceIte,Nat.reduceEqDiff,E.back,E.backR,E.ix,Res.un,AC.un,AC.un.uns,AV.un,E.un,Option.map_some,Option.map_none,Option.getD_some,List.getElem?_cons_zero,List.getElem?_cons_succ,List.getElem?_nil,curC,crkO,crkR];rfl):GCode P N n (.loop c) s R Q:=G_forD keep mods Rf I m x0 hb h0 hR h1 round
theorem g_seqD_A121_5 {P : Program} {N n : Nat} {s : Slots} {R : List Res} {Q : Exit → Slots → List Res → Prop} {α : Type} {x y : Code} (keep : List Nat) (mods : α → Slots) (Rf : α → List Res) (I : α → Prop) {base : Slots}
  (hx:GCode P N n x s R (EThen (fun s' R'=>∃ σ,okσ n R' σ=true ∧ ∃ z,I z∧reR n σ R'=Rf z∧chk (renS n σ s') (mods z)∧chk (renS n σ s') base) Q)) (hy:∀ z,I z→GCode P N n y (mods z++base) (Rf z) Q) (hb:keepOf s keep=base:=by simp only [E.keepOf,E.get,E.ev,E.cv,E.fill',E.fill,E.slotsOf,Res.sh,AC.sh,AC.sh.shs,AV.sh,E.splice,List.map_cons,List.map_nil,List.cons_append,List.nil_append,List.append_nil,List.length_cons,List.length_nil,List.take_zero,List.drop_zero,List.take_succ_cons,List.drop_succ_cons,List.drop_nil,List.take_nil,List.set_cons_zero,List.set_cons_succ,Nat.zero_add,Nat.add_zero,Nat.reduceAdd,Nat.reduceSub,reduceIte,Nat.reduceEqDiff,E.back,E.backR,E.ix,Res.un,AC.un,AC.un.uns,AV.un,E.un,Option.map_some,Option.map_none,Option.getD_some,List.getElem?_cons_zero,List.getElem?_cons_succ,List.getElem?_nil,curC,crkO,crkR];rfl):GCode P N n (.seq x y) s R Q:=G_seqD keep mods Rf I hb hx hy
theorem e_tidy_A121_6 {P:Program} {N:Nat} {s:Slots} {R:List Res} {Q:Exit→Slots→List Res→Prop} {c:Code} (keep:List Nat) {base:Slots} {R':List Res} (h:ECode P N c base R' Q) (hb:keepOf s keep=base:=by simp only [E.keepOf,E.get,E.ev,E.cv,E.fill',E.fill,E.slotsOf,Res.sh,AC.sh,AC.sh.shs,AV.sh,E.splice,List.map_cons,List.map_nil,List.cons_append,List.nil_append,List.append_nil,List.length_cons,List.length_nil,List.take_zero,List.drop_zero,List.take_succ_cons,List.drop_succ_cons,List.drop_nil,List.take_nil,List.set_cons_zero,List.set_cons_succ,Nat.zero_add,Nat.add_zero,Nat.reduceAdd,Nat.reduceSub,reduceIte,Nat.reduceEqDiff,E.back,E.backR,E.ix,Res.un,AC.un,AC.un.uns,AV.un,E.un,Option.map_some,Option.map_none,Option.getD_some,List.getElem?_cons_zero,List.getElem?_cons_succ,List.getElem?_nil,curC,crkO,crkR];rfl) (hR:R=R':=by (try simp only [E.keepOf,E.get,E.ev,E.cv,E.fill',E.fill,E.slotsOf,Res.sh,AC.sh,AC.sh.shs,AV.sh,E.splice,List.map_cons,List.map_nil,List.cons_append,List.nil_append,List.append_nil,List.length_cons,List.length_nil,List.take_zero,List.drop_zero,List.take_succ_cons,List.drop_succ_cons,List.drop_nil,List.take_nil,List.set_cons_zero,List.set_cons_succ,Nat.zero_add,Nat.add_zero,Nat.reduceAdd,Nat.reduceSub,reduceIte,Nat.reduceEqDiff,E.back,E.backR,E.ix,Res.un,AC.un,AC.un.uns,AV.un,E.un,Option.map_some,Option.map_none,Option.getD_some,List.getElem?_cons_zero,List.getElem?_cons_succ,List.getElem?_nil,curC,crkO,crkR]);rfl):ECode P N c s R Q:=E_tidy keep hb hR h

set_option maxRecDepth 20000 in
set_option maxHeartbeats 2000000 in
theorem c_spec_l2Values_av (l : List Int) (i h most : Int) (hb : byL l) (hi : curOk l i) (hm : 0 ≤ most ∧ most ≤ 100000) : EFn Tryz.prog 193 [.c (.bp 0 0), .c (.sc (.int .i64 most))] [.box (curC l i h), .box [.sc (.slice none 0 0), .sc (.slice none 0 0), .sc (.slice none 0 0)], .box [.sc (.slice none 0 0), .sc (.slice none 0 0), .sc (.slice none 0 0)], .box [.sc (.slice none 0 0), .sc (.slice none 0 0), .sc (.slice none 0 0)]] (fun r S => ∃ (xs : List Int) (i' h' : Int), (r = .c (.sl 4 0 xs.length xs.length) ∧ S = [.box (curC l i' h'), .box [.sc (.slice none 0 0), .sc (.slice none 0 0), .sc (.slice none 0 0)], .box [.sc (.slice none 0 0), .sc (.slice none 0 0), .sc (.slice none 0 0)], .box [.sc (.slice none 0 0), .sc (.slice none 0 0), .sc (.slice none 0 0)], .row 3 1 (ints xs)]) ∧ curOk l i' ∧ (xs.length : Int) ≤ most) := by
 refine E_fn Tryz.func193 rfl (Nat.le_of_ble_eq_true rfl) ?_
 refine E_seq ?_
 refine E_region' (L:=[0]) rfl ?_
 refine xas ?_
 refine EOps_nil ?_
 refine E_seq ?_
 refine E_region' (L:=[0,1]) rfl ?_
 refine EOps_go rfl rfl (Heavy.op (H_bslice rfl rfl (by decide) sl_22 ty_3 za_3 ⟨rfl,by decide⟩ (by decide) rfl rfl rfl rfl ?_))
 refine xas ?_
 refine EOps_nil ?_
 refine E_seq ?_
 refine e_tidy_A120_0 [0,1,4,5] ?_
 refine E_region' (L:=[0,1,2,3]) rfl ?_
 refine xmv ?_
 refine EOps_go rfl rfl (Heavy.op (H_bslice rfl rfl (by decide) sl_22 ty_3 za_3 ⟨rfl,by decide⟩ (by decide) rfl rfl rfl rfl ?_))
 refine EOps_go rfl rfl (xe2 rfl rfl rfl ca_168 (c_spec_l1PickInt l i h _ 4 [3,10,30,1000] 4 hb hi (by decide) rfl rfl) ?_)
 rintro r S ⟨w,i1,h1,⟨rfl,rfl⟩,hi1,hw⟩
 have hw':0<w∧w≤1000:=by simp at hw;omega
 refine xas ?_
 refine EOps_nil ?_
 refine E_seq ?_
 refine E_seq ?_
 refine e_tidy_A120_0 [0,1,4,5,6] ?_
 refine E_region' (L:=[0,1,2,3,4]) rfl ?_
 refine xmv ?_
 refine xmv ?_
 refine p_ rfl xb2 ?_
 refine EOps_go rfl rfl (xe2 rfl rfl rfl ca_183 (c_spec_l1Below l i1 h1 (most+1) _ hb hi1 (by omega)) ?_)
 rintro r S ⟨x2,i2,h2,⟨rfl,rfl⟩,hi2,hx2⟩
 obtain⟨k,rfl⟩:∃ k:Nat,x2=(k:Int):=⟨x2.toNat,by omega⟩
 have hk1:=hx2.2.1 (by omega)
 refine xas ?_
 refine EOps_nil ?_
 refine E_block ?_
 refine e_for_A121_1 (α:=Nat × List Int × Int × Int) [0,1,4,6] (fun (n,xs,i3,h3)=>[(7,.c (.sc (.int .i64 ((n:Int))))),(5,.c (.sl 4 0 xs.length xs.length)),(8,.any)]) (fun (n,xs,i3,h3)=>[.box (curC l i3 h3),.box [.sc (.slice none 0 0),.sc (.slice none 0 0),.sc (.slice none 0 0)],.box [.sc (.slice none 0 0),.sc (.slice none 0 0),.sc (.slice none 0 0)],.box [.sc (.slice none 0 0),.sc (.slice none 0 0),.sc (.slice none 0 0)],.row 3 1 (ints xs),_]) (fun (n,xs,i3,h3)=>(n:Int)+xs.length≤most∧curOk l i3) (fun (n,xs,i3,h3)=>n) ((k,[],i2,h2)) ?_ (rfl) ⟨.inr rfl,.inr rfl,.inl rfl,trivial⟩ ?_
 ·exact⟨by simp;omega,hi2⟩
 rintro⟨n,xs,i3,h3⟩ ⟨hnx,hi3⟩
 dsimp only at *
 refine E_seq ?_
 refine E_seq ?_
 refine E_region' (L:=[0,1]) rfl ?_
 refine xmv ?_
 refine p_ rfl (L_bin rfl rfl rfl rfl) ?_
 refine EOps_nil ?_
 refine E_cond rfl (fun hc18=>?_) (fun hc18=>?_)
 ·have hn1 : 0 < n := by simp at hc18; omega
  refine E_skip ?_
  refine E_seq ?_
  refine E_block ?_
  refine E_seq ?_
  refine e_tidy_A120_0 [0,1,4,5,6,7,8,18] ?_
  refine E_region' (L:=[0,1,2,3,4,5,6]) rfl ?_
  refine xmv ?_
  refine xmv ?_
  refine EOps_go rfl rfl (xe2 rfl rfl rfl ca_183 (c_spec_l1Below l i3 h3 w _ hb hi3 (by omega)) ?_)
  rintro r S ⟨x4,i4,h4,⟨rfl,rfl⟩,hi4,hx4⟩
  refine xmv ?_
  refine p_ rfl (L_quo rfl rfl rfl (by omega)) ?_
  refine p_ rfl xb5 ?_
  generalize hzz:(IntKind.i64.wrap (x4 - IntKind.i64.wrap (Int.tdiv w 3)))=zz
  refine xas ?_
  refine EOps_nil ?_
  refine E_region' (L:=[0,1,2,3,4]) rfl ?_
  refine xmv ?_
  refine xmv ?_
  refine EOps_go rfl rfl (Heavy.op (H_bslice_ro rfl rfl (by decide) sl_22 ty_3 za_3 ⟨rfl,by decide⟩ (by decide) rfl rfl rfl rfl ?_))
  refine EOps_go rfl rfl (EOp_append (news:=ints [zz]) rfl rfl (by decide) sl_22 ty_3 by_3 za_3 ⟨rfl,by decide⟩ rfl (by first|rfl|assumption) xb6 xb7 xb8 xb9 ?_)
  refine xas ?_
  refine EOps_nil ?_
  refine E_region' (L:=[0,1,2]) rfl ?_
  refine xmv ?_
  refine p_ rfl xb5 ?_
  refine xas ?_
  refine EOps_nil ?_
  refine⟨(n - 1,xs++[zz],i4,h4),?_,?_,(by dsimp only;rw [← ints_app];rfl),⟨.inr (int_eq (by first|omega|(dsimp only;omega))),.inr ((by dsimp only;rw [← ints_lenApp];rfl)),.inl rfl,trivial⟩,⟨.inr rfl,.inr rfl,.inr rfl,.inr rfl,trivial⟩⟩
  ·dsimp only;omega
  exact⟨by simp;omega,hi4⟩
 refine E_exit ?_
 refine E_seq ?_
 refine E_region' (L:=[0,1]) rfl ?_
 refine xmv ?_
 refine xas ?_
 refine EOps_nil ?_
 refine E_ret ?_
 exact⟨_,[4],rfl,rfl,xs,i3,h3,⟨rfl,rfl⟩,hi3,by omega⟩

set_option maxRecDepth 20000 in
set_option maxHeartbeats 4000000 in
theorem c_spec_l4Value_aw (l : List Int) (i h : Int) (Y : Crk) (hb : byL l) (hi : curOk l i) (hX : Y.vals.length ≤ 100000) : EFn Tryz.prog 119 [.c (.bp 0 0), .agg (crkO 4 Y)] [.box (curC l i h), .box [.sc (.slice none 0 0), .sc (.slice none 0 0), .sc (.slice none 0 0)], .box [.sc (.slice none 0 0), .sc (.slice none 0 0), .sc (.slice none 0 0)], .box [.sc (.slice none 0 0), .sc (.slice none 0 0), .sc (.slice none 0 0)], .row 3 1 (ints Y.vals), .row 3 1 (ints Y.rows), .row 151 2 (pairs Y.piv), .box (crkO 4 Y)] (fun r S => ∃ (v i' h' : Int), (r = .c (.sc (.int .i64 v)) ∧ S = [.box (curC l i' h'), .box [.sc (.slice none 0 0), .sc (.slice none 0 0), .sc (.slice none 0 0)], .box [.sc (.slice none 0 0), .sc (.slice none 0 0), .sc (.slice none 0 0)], .box [.sc (.slice none 0 0), .sc (.slice none 0 0), .sc (.slice none 0 0)], .row 3 1 (ints Y.vals), .row 3 1 (ints Y.rows), .row 151 2 (pairs Y.piv), .box (crkO 4 Y)]) ∧ curOk l i') := by
 refine E_fn Tryz.func119 rfl (Nat.le_of_ble_eq_true rfl) ?_
 refine E_seq ?_
 refine E_region' (L:=[0,1]) rfl ?_
 refine x_box rfl rfl rfl rfl rfl ?_
 refine xas ?_
 refine EOps_nil ?_
 refine E_seq ?_
 refine E_seq ?_
 refine e_tidy_A121_2 [0,1,3,4] ?_
 refine E_region' (L:=[0,1,2,3,4,5,6,7,8]) rfl ?_
 refine p_ rfl (l_field rfl fo_49_0) ?_
 refine l_ rfl (L_load rfl (xb0 ty_22)) ?_
 refine p_ rfl (l_len rfl sl_22) ?_
 refine p_ rfl (L_bin rfl rfl rfl rfl) ?_
 refine xmv ?_
 refine EOps_split 9 (b:=_) rfl (fun hg9=>?_) (fun hg9=>?_)
 ·have hn0 : 0 < Y.vals.length := by simp at hg9; omega
  refine xmv ?_
  refine EOps_go rfl rfl (xe2 rfl rfl rfl ca_185 (c_spec_l1Once l i h 4 _ hb hi (by decide)) ?_)
  rintro r S ⟨b1,i1,h1,⟨rfl,rfl⟩,hi1⟩
  refine p_ rfl (L_not rfl rfl) ?_
  refine p_ rfl (L_pick rfl rfl) ?_
  refine EOps_nil ?_
  refine E_cond rfl (fun hc13=>?_) (fun hc13=>?_)
  ·refine E_seq ?_
   refine e_tidy_A121_2 [0,1,3,4,13] ?_
   refine E_drawU mixed ?_
   refine up_ 0 rfl (l_field rfl fo_49_0) ?_
   refine up_ 2 rfl (L_move rfl) ?_
   refine up_ 3 rfl (l_field rfl fo_49_0) ?_
   refine up_ 9 rfl (L_move rfl) ?_
   refine u_any 1 [4] ⟨?_,?_,trivial⟩
   ·refine u_op 1 rfl rfl (EOp_light rfl (by decide) (L_load rfl (xb3 ty_22)) ?_)
    refine u_any 4 [] ⟨?_,trivial⟩
    refine u_op 4 rfl rfl (EOp_light rfl (by decide) (L_load rfl (xb0 ty_22)) ?_)
    refine up_ 5 rfl (l_len rfl sl_22) ?_
    refine u_any 6 [] ⟨?_,trivial⟩
    refine u_op 6 rfl rfl (xe2 rfl rfl rfl ca_183 (c_spec_l1Below l i1 h1 (Y.vals.length:Int) _ hb hi1 (by omega)) ?_)
    rintro r S ⟨x2,i2,h2,⟨rfl,rfl⟩,hi2,hx2⟩
    obtain⟨kk,rfl⟩:∃ kk:Nat,x2=(kk:Int):=⟨x2.toNat,by omega⟩
    have hk1:kk<Y.vals.length:=by have:=hx2.2.1 (by omega);omega
    obtain⟨y,hy⟩:=at_lt (l:=Y.vals) hk1
    refine up_ 7 rfl (L_index rfl rfl (xii sl_22 ty_3)) ?_
    refine u_any 8 [10] ⟨?_,?_,trivial⟩
    ·refine u_op 8 rfl rfl (EOp_light rfl (by decide) (L_load rfl (xb3 ty_3)) ?_)
     refine u_any 10 [] ⟨?_,trivial⟩
     refine u_op 10 rfl rfl (xe2 rfl rfl rfl ca_183 (c_spec_l1Below l i2 h2 3 _ hb hi2 (by decide)) ?_)
     rintro r S ⟨x3,i3,h3,⟨rfl,rfl⟩,hi3,hx3⟩
     refine up_ 11 rfl xb2 ?_
     refine up_ 12 rfl xb5 ?_
     refine up_ 13 rfl (L_assign rfl) ?_
     refine u_done ?_
     refine E_ret ?_
     first
      | exact⟨_,[],rfl,rfl,_,i3,h3,⟨rfl,rfl⟩,hi3⟩
      | exact⟨_,[],rfl,rfl,_,i4,h4,⟨rfl,rfl⟩,hi4⟩
    refine u_op 10 rfl rfl (xe2 rfl rfl rfl ca_183 (c_spec_l1Below l i2 h2 3 _ hb hi2 (by decide)) ?_)
    rintro r S ⟨x3,i3,h3,⟨rfl,rfl⟩,hi3,hx3⟩
    refine u_any 8 [] ⟨?_,trivial⟩
    refine u_op 8 rfl rfl (EOp_light rfl (by decide) (L_load rfl (xb0 ty_3)) ?_)
    refine up_ 11 rfl xb2 ?_
    refine up_ 12 rfl xb5 ?_
    refine up_ 13 rfl (L_assign rfl) ?_
    refine u_done ?_
    refine E_ret ?_
    first
     | exact⟨_,[],rfl,rfl,_,i3,h3,⟨rfl,rfl⟩,hi3⟩
     | exact⟨_,[],rfl,rfl,_,i4,h4,⟨rfl,rfl⟩,hi4⟩
   refine u_op 4 rfl rfl (EOp_light rfl (by decide) (L_load rfl (xb3 ty_22)) ?_)
   refine up_ 5 rfl (l_len rfl sl_22) ?_
   refine u_any 1 [6] ⟨?_,?_,trivial⟩
   ·refine u_op 1 rfl rfl (EOp_light rfl (by decide) (L_load rfl (xb3 ty_22)) ?_)
    refine u_any 6 [] ⟨?_,trivial⟩
    refine u_op 6 rfl rfl (xe2 rfl rfl rfl ca_183 (c_spec_l1Below l i1 h1 (Y.vals.length:Int) _ hb hi1 (by omega)) ?_)
    rintro r S ⟨x2,i2,h2,⟨rfl,rfl⟩,hi2,hx2⟩
    obtain⟨kk,rfl⟩:∃ kk:Nat,x2=(kk:Int):=⟨x2.toNat,by omega⟩
    have hk1:kk<Y.vals.length:=by have:=hx2.2.1 (by omega);omega
    obtain⟨y,hy⟩:=at_lt (l:=Y.vals) hk1
    refine up_ 7 rfl (L_index rfl rfl (xii sl_22 ty_3)) ?_
    refine u_any 8 [10] ⟨?_,?_,trivial⟩
    ·refine u_op 8 rfl rfl (EOp_light rfl (by decide) (L_load rfl (xb3 ty_3)) ?_)
     refine u_any 10 [] ⟨?_,trivial⟩
     refine u_op 10 rfl rfl (xe2 rfl rfl rfl ca_183 (c_spec_l1Below l i2 h2 3 _ hb hi2 (by decide)) ?_)
     rintro r S ⟨x3,i3,h3,⟨rfl,rfl⟩,hi3,hx3⟩
     refine up_ 11 rfl xb2 ?_
     refine up_ 12 rfl xb5 ?_
     refine up_ 13 rfl (L_assign rfl) ?_
     refine u_done ?_
     refine E_ret ?_
     first
      | exact⟨_,[],rfl,rfl,_,i3,h3,⟨rfl,rfl⟩,hi3⟩
      | exact⟨_,[],rfl,rfl,_,i4,h4,⟨rfl,rfl⟩,hi4⟩
    refine u_op 10 rfl rfl (xe2 rfl rfl rfl ca_183 (c_spec_l1Below l i2 h2 3 _ hb hi2 (by decide)) ?_)
    rintro r S ⟨x3,i3,h3,⟨rfl,rfl⟩,hi3,hx3⟩
    refine u_any 8 [] ⟨?_,trivial⟩
    refine u_op 8 rfl rfl (EOp_light rfl (by decide) (L_load rfl (xb0 ty_3)) ?_)
    refine up_ 11 rfl xb2 ?_
    refine up_ 12 rfl xb5 ?_
    refine up_ 13 rfl (L_assign rfl) ?_
    refine u_done ?_
    refine E_ret ?_
    first
     | exact⟨_,[],rfl,rfl,_,i3,h3,⟨rfl,rfl⟩,hi3⟩
     | exact⟨_,[],rfl,rfl,_,i4,h4,⟨rfl,rfl⟩,hi4⟩
   refine u_op 6 rfl rfl (xe2 rfl rfl rfl ca_183 (c_spec_l1Below l i1 h1 (Y.vals.length : Int) _ hb hi1 (by omega)) ?_)
   rintro r S ⟨x2,i2,h2,⟨rfl,rfl⟩,hi2,hx2⟩
   obtain⟨kk,rfl⟩:∃ kk:Nat,x2=(kk:Int):=⟨x2.toNat,by omega⟩
   have hk1:kk<Y.vals.length:=by have:=hx2.2.1 (by omega);omega
   obtain⟨y,hy⟩:=at_lt (l:=Y.vals) hk1
   refine u_any 1 [10] ⟨?_,?_,trivial⟩
   ·refine u_op 1 rfl rfl (EOp_light rfl (by decide) (L_load rfl (xb3 ty_22)) ?_)
    refine up_ 7 rfl (L_index rfl rfl (xii sl_22 ty_3)) ?_
    refine u_any 8 [10] ⟨?_,?_,trivial⟩
    ·refine u_op 8 rfl rfl (EOp_light rfl (by decide) (L_load rfl (xb3 ty_3)) ?_)
     refine u_any 10 [] ⟨?_,trivial⟩
     refine u_op 10 rfl rfl (xe2 rfl rfl rfl ca_183 (c_spec_l1Below l i2 h2 3 _ hb hi2 (by decide)) ?_)
     rintro r S ⟨x3,i3,h3,⟨rfl,rfl⟩,hi3,hx3⟩
     refine up_ 11 rfl xb2 ?_
     refine up_ 12 rfl xb5 ?_
     refine up_ 13 rfl (L_assign rfl) ?_
     refine u_done ?_
     refine E_ret ?_
     first
      | exact⟨_,[],rfl,rfl,_,i3,h3,⟨rfl,rfl⟩,hi3⟩
      | exact⟨_,[],rfl,rfl,_,i4,h4,⟨rfl,rfl⟩,hi4⟩
    refine u_op 10 rfl rfl (xe2 rfl rfl rfl ca_183 (c_spec_l1Below l i2 h2 3 _ hb hi2 (by decide)) ?_)
    rintro r S ⟨x3,i3,h3,⟨rfl,rfl⟩,hi3,hx3⟩
    refine u_any 8 [] ⟨?_,trivial⟩
    refine u_op 8 rfl rfl (EOp_light rfl (by decide) (L_load rfl (xb0 ty_3)) ?_)
    refine up_ 11 rfl xb2 ?_
    refine up_ 12 rfl xb5 ?_
    refine up_ 13 rfl (L_assign rfl) ?_
    refine u_done ?_
    refine E_ret ?_
    first
     | exact⟨_,[],rfl,rfl,_,i3,h3,⟨rfl,rfl⟩,hi3⟩
     | exact⟨_,[],rfl,rfl,_,i4,h4,⟨rfl,rfl⟩,hi4⟩
   refine u_op 10 rfl rfl (xe2 rfl rfl rfl ca_183 (c_spec_l1Below l i2 h2 3 _ hb hi2 (by decide)) ?_)
   rintro r S ⟨x3,i3,h3,⟨rfl,rfl⟩,hi3,hx3⟩
   refine u_any 1 [] ⟨?_,trivial⟩
   refine u_op 1 rfl rfl (EOp_light rfl (by decide) (L_load rfl (xb0 ty_22)) ?_)
   refine up_ 7 rfl (L_index rfl rfl (xii sl_22 ty_3)) ?_
   refine u_any 8 [] ⟨?_,trivial⟩
   refine u_op 8 rfl rfl (EOp_light rfl (by decide) (L_load rfl (xb0 ty_3)) ?_)
   refine up_ 11 rfl xb2 ?_
   refine up_ 12 rfl xb5 ?_
   refine up_ 13 rfl (L_assign rfl) ?_
   refine u_done ?_
   refine E_ret ?_
   first
    | exact⟨_,[],rfl,rfl,_,i3,h3,⟨rfl,rfl⟩,hi3⟩
    | exact⟨_,[],rfl,rfl,_,i4,h4,⟨rfl,rfl⟩,hi4⟩
  refine E_skip ?_
  refine E_seq ?_
  refine e_tidy_A121_2 [0,1,3,4,13] ?_
  refine E_region' (L:=[0,1,2,3]) rfl ?_
  refine xmv ?_
  refine EOps_go rfl rfl (Heavy.op (H_bslice rfl rfl (by decide) sl_22 ty_3 za_3 ⟨rfl,by decide⟩ (by decide) rfl rfl rfl rfl ?_))
  refine EOps_go rfl rfl (xe2 rfl rfl rfl ca_168 (c_spec_l1PickInt l _ _ _ 8 [0,3,-2,-1000,1000,50] 6 hb (by assumption) (by decide) rfl rfl) ?_)
  rintro r S ⟨x4,i4,h4,⟨rfl,rfl⟩,hi4,hx4⟩
  refine xas ?_
  refine EOps_nil ?_
  refine E_ret ?_
  first
   | exact⟨_,[],rfl,rfl,_,i3,h3,⟨rfl,rfl⟩,hi3⟩
   | exact⟨_,[],rfl,rfl,_,i4,h4,⟨rfl,rfl⟩,hi4⟩
 refine s_ rfl ?_
 refine s_ rfl ?_
 refine s_ rfl ?_
 refine p_ rfl (L_pick rfl rfl) ?_
 refine EOps_nil ?_
 refine E_cond rfl (fun hc13=>?_) (fun hc13=>?_)
 ·exact Bool.noConfusion (hc13:false=true)
 refine E_skip ?_
 refine E_seq ?_
 refine e_tidy_A121_2 [0,1,3,4,13] ?_
 refine E_region' (L:=[0,1,2,3]) rfl ?_
 refine xmv ?_
 refine EOps_go rfl rfl (Heavy.op (H_bslice rfl rfl (by decide) sl_22 ty_3 za_3 ⟨rfl,by decide⟩ (by decide) rfl rfl rfl rfl ?_))
 refine EOps_go rfl rfl (xe2 rfl rfl rfl ca_168 (c_spec_l1PickInt l _ _ _ 8 [0,3,-2,-1000,1000,50] 6 hb (by assumption) (by decide) rfl rfl) ?_)
 rintro r S ⟨x4,i4,h4,⟨rfl,rfl⟩,hi4,hx4⟩
 refine xas ?_
 refine EOps_nil ?_
 refine E_ret ?_
 first
  | exact⟨_,[],rfl,rfl,_,i3,h3,⟨rfl,rfl⟩,hi3⟩
  | exact⟨_,[],rfl,rfl,_,i4,h4,⟨rfl,rfl⟩,hi4⟩

set_option maxRecDepth 20000 in
set_option maxHeartbeats 4000000 in
theorem c_spec_l4Value_awx (l : List Int) (i h : Int) (Y : Crk) (hb : byL l) (hi : curOk l i) (hX : Y.vals.length ≤ 100000) : EFn Tryz.prog 119 [.c (.bp 0 0), .agg (crkO 4 Y)] [.box (curC l i h), .box [.sc (.slice none 0 0), .sc (.slice none 0 0), .sc (.slice none 0 0)], .box [.sc (.slice none 0 0), .sc (.slice none 0 0), .sc (.slice none 0 0)], .box [.sc (.slice none 0 0), .sc (.slice none 0 0), .sc (.slice none 0 0)], .row 3 1 (ints Y.vals), .row 3 1 (ints Y.rows), .row 151 2 (pairs Y.piv), .box (crkO 4 Y), .box [.sc (.slice none 0 0), .sc (.slice none 0 0), .sc (.slice none 0 0)]] (fun r S => ∃ (v i' h' : Int), (r = .c (.sc (.int .i64 v)) ∧ S = [.box (curC l i' h'), .box [.sc (.slice none 0 0), .sc (.slice none 0 0), .sc (.slice none 0 0)], .box [.sc (.slice none 0 0), .sc (.slice none 0 0), .sc (.slice none 0 0)], .box [.sc (.slice none 0 0), .sc (.slice none 0 0), .sc (.slice none 0 0)], .row 3 1 (ints Y.vals), .row 3 1 (ints Y.rows), .row 151 2 (pairs Y.piv), .box (crkO 4 Y), .box [.sc (.slice none 0 0), .sc (.slice none 0 0), .sc (.slice none 0 0)]]) ∧ curOk l i') := by
 refine E_fn Tryz.func119 rfl (Nat.le_of_ble_eq_true rfl) ?_
 refine E_seq ?_
 refine E_region' (L:=[0,1]) rfl ?_
 refine x_box rfl rfl rfl rfl rfl ?_
 refine xas ?_
 refine EOps_nil ?_
 refine E_seq ?_
 refine E_seq ?_
 refine e_tidy_A121_2 [0,1,3,4] ?_
 refine E_region' (L:=[0,1,2,3,4,5,6,7,8]) rfl ?_
 refine p_ rfl (l_field rfl fo_49_0) ?_
 refine l_ rfl (L_load rfl (xb0 ty_22)) ?_
 refine p_ rfl (l_len rfl sl_22) ?_
 refine p_ rfl (L_bin rfl rfl rfl rfl) ?_
 refine xmv ?_
 refine EOps_split 9 (b:=_) rfl (fun hg9=>?_) (fun hg9=>?_)
 ·have hn0 : 0 < Y.vals.length := by simp at hg9; omega
  refine xmv ?_
  refine EOps_go rfl rfl (xe2 rfl rfl rfl ca_185 (c_spec_l1Once l i h 4 _ hb hi (by decide)) ?_)
  rintro r S ⟨b1,i1,h1,⟨rfl,rfl⟩,hi1⟩
  refine p_ rfl (L_not rfl rfl) ?_
  refine p_ rfl (L_pick rfl rfl) ?_
  refine EOps_nil ?_
  refine E_cond rfl (fun hc13=>?_) (fun hc13=>?_)
  ·refine E_seq ?_
   refine e_tidy_A121_2 [0,1,3,4,13] ?_
   refine E_drawU mixed ?_
   refine up_ 0 rfl (l_field rfl fo_49_0) ?_
   refine up_ 2 rfl (L_move rfl) ?_
   refine up_ 3 rfl (l_field rfl fo_49_0) ?_
   refine up_ 9 rfl (L_move rfl) ?_
   refine u_any 1 [4] ⟨?_,?_,trivial⟩
   ·refine u_op 1 rfl rfl (EOp_light rfl (by decide) (L_load rfl (xb3 ty_22)) ?_)
    refine u_any 4 [] ⟨?_,trivial⟩
    refine u_op 4 rfl rfl (EOp_light rfl (by decide) (L_load rfl (xb0 ty_22)) ?_)
    refine up_ 5 rfl (l_len rfl sl_22) ?_
    refine u_any 6 [] ⟨?_,trivial⟩
    refine u_op 6 rfl rfl (xe2 rfl rfl rfl ca_183 (c_spec_l1Below l i1 h1 (Y.vals.length:Int) _ hb hi1 (by omega)) ?_)
    rintro r S ⟨x2,i2,h2,⟨rfl,rfl⟩,hi2,hx2⟩
    obtain⟨kk,rfl⟩:∃ kk:Nat,x2=(kk:Int):=⟨x2.toNat,by omega⟩
    have hk1:kk<Y.vals.length:=by have:=hx2.2.1 (by omega);omega
    obtain⟨y,hy⟩:=at_lt (l:=Y.vals) hk1
    refine up_ 7 rfl (L_index rfl rfl (xii sl_22 ty_3)) ?_
    refine u_any 8 [10] ⟨?_,?_,trivial⟩
    ·refine u_op 8 rfl rfl (EOp_light rfl (by decide) (L_load rfl (xb3 ty_3)) ?_)
     refine u_any 10 [] ⟨?_,trivial⟩
     refine u_op 10 rfl rfl (xe2 rfl rfl rfl ca_183 (c_spec_l1Below l i2 h2 3 _ hb hi2 (by decide)) ?_)
     rintro r S ⟨x3,i3,h3,⟨rfl,rfl⟩,hi3,hx3⟩
     refine up_ 11 rfl xb2 ?_
     refine up_ 12 rfl xb5 ?_
     refine up_ 13 rfl (L_assign rfl) ?_
     refine u_done ?_
     refine E_ret ?_
     first
      | exact⟨_,[],rfl,rfl,_,i3,h3,⟨rfl,rfl⟩,hi3⟩
      | exact⟨_,[],rfl,rfl,_,i4,h4,⟨rfl,rfl⟩,hi4⟩
    refine u_op 10 rfl rfl (xe2 rfl rfl rfl ca_183 (c_spec_l1Below l i2 h2 3 _ hb hi2 (by decide)) ?_)
    rintro r S ⟨x3,i3,h3,⟨rfl,rfl⟩,hi3,hx3⟩
    refine u_any 8 [] ⟨?_,trivial⟩
    refine u_op 8 rfl rfl (EOp_light rfl (by decide) (L_load rfl (xb0 ty_3)) ?_)
    refine up_ 11 rfl xb2 ?_
    refine up_ 12 rfl xb5 ?_
    refine up_ 13 rfl (L_assign rfl) ?_
    refine u_done ?_
    refine E_ret ?_
    first
     | exact⟨_,[],rfl,rfl,_,i3,h3,⟨rfl,rfl⟩,hi3⟩
     | exact⟨_,[],rfl,rfl,_,i4,h4,⟨rfl,rfl⟩,hi4⟩
   refine u_op 4 rfl rfl (EOp_light rfl (by decide) (L_load rfl (xb3 ty_22)) ?_)
   refine up_ 5 rfl (l_len rfl sl_22) ?_
   refine u_any 1 [6] ⟨?_,?_,trivial⟩
   ·refine u_op 1 rfl rfl (EOp_light rfl (by decide) (L_load rfl (xb3 ty_22)) ?_)
    refine u_any 6 [] ⟨?_,trivial⟩
    refine u_op 6 rfl rfl (xe2 rfl rfl rfl ca_183 (c_spec_l1Below l i1 h1 (Y.vals.length:Int) _ hb hi1 (by omega)) ?_)
    rintro r S ⟨x2,i2,h2,⟨rfl,rfl⟩,hi2,hx2⟩
    obtain⟨kk,rfl⟩:∃ kk:Nat,x2=(kk:Int):=⟨x2.toNat,by omega⟩
    have hk1:kk<Y.vals.length:=by have:=hx2.2.1 (by omega);omega
    obtain⟨y,hy⟩:=at_lt (l:=Y.vals) hk1
    refine up_ 7 rfl (L_index rfl rfl (xii sl_22 ty_3)) ?_
    refine u_any 8 [10] ⟨?_,?_,trivial⟩
    ·refine u_op 8 rfl rfl (EOp_light rfl (by decide) (L_load rfl (xb3 ty_3)) ?_)
     refine u_any 10 [] ⟨?_,trivial⟩
     refine u_op 10 rfl rfl (xe2 rfl rfl rfl ca_183 (c_spec_l1Below l i2 h2 3 _ hb hi2 (by decide)) ?_)
     rintro r S ⟨x3,i3,h3,⟨rfl,rfl⟩,hi3,hx3⟩
     refine up_ 11 rfl xb2 ?_
     refine up_ 12 rfl xb5 ?_
     refine up_ 13 rfl (L_assign rfl) ?_
     refine u_done ?_
     refine E_ret ?_
     first
      | exact⟨_,[],rfl,rfl,_,i3,h3,⟨rfl,rfl⟩,hi3⟩
      | exact⟨_,[],rfl,rfl,_,i4,h4,⟨rfl,rfl⟩,hi4⟩
    refine u_op 10 rfl rfl (xe2 rfl rfl rfl ca_183 (c_spec_l1Below l i2 h2 3 _ hb hi2 (by decide)) ?_)
    rintro r S ⟨x3,i3,h3,⟨rfl,rfl⟩,hi3,hx3⟩
    refine u_any 8 [] ⟨?_,trivial⟩
    refine u_op 8 rfl rfl (EOp_light rfl (by decide) (L_load rfl (xb0 ty_3)) ?_)
    refine up_ 11 rfl xb2 ?_
    refine up_ 12 rfl xb5 ?_
    refine up_ 13 rfl (L_assign rfl) ?_
    refine u_done ?_
    refine E_ret ?_
    first
     | exact⟨_,[],rfl,rfl,_,i3,h3,⟨rfl,rfl⟩,hi3⟩
     | exact⟨_,[],rfl,rfl,_,i4,h4,⟨rfl,rfl⟩,hi4⟩
   refine u_op 6 rfl rfl (xe2 rfl rfl rfl ca_183 (c_spec_l1Below l i1 h1 (Y.vals.length : Int) _ hb hi1 (by omega)) ?_)
   rintro r S ⟨x2,i2,h2,⟨rfl,rfl⟩,hi2,hx2⟩
   obtain⟨kk,rfl⟩:∃ kk:Nat,x2=(kk:Int):=⟨x2.toNat,by omega⟩
   have hk1:kk<Y.vals.length:=by have:=hx2.2.1 (by omega);omega
   obtain⟨y,hy⟩:=at_lt (l:=Y.vals) hk1
   refine u_any 1 [10] ⟨?_,?_,trivial⟩
   ·refine u_op 1 rfl rfl (EOp_light rfl (by decide) (L_load rfl (xb3 ty_22)) ?_)
    refine up_ 7 rfl (L_index rfl rfl (xii sl_22 ty_3)) ?_
    refine u_any 8 [10] ⟨?_,?_,trivial⟩
    ·refine u_op 8 rfl rfl (EOp_light rfl (by decide) (L_load rfl (xb3 ty_3)) ?_)
     refine u_any 10 [] ⟨?_,trivial⟩
     refine u_op 10 rfl rfl (xe2 rfl rfl rfl ca_183 (c_spec_l1Below l i2 h2 3 _ hb hi2 (by decide)) ?_)
     rintro r S ⟨x3,i3,h3,⟨rfl,rfl⟩,hi3,hx3⟩
     refine up_ 11 rfl xb2 ?_
     refine up_ 12 rfl xb5 ?_
     refine up_ 13 rfl (L_assign rfl) ?_
     refine u_done ?_
     refine E_ret ?_
     first
      | exact⟨_,[],rfl,rfl,_,i3,h3,⟨rfl,rfl⟩,hi3⟩
      | exact⟨_,[],rfl,rfl,_,i4,h4,⟨rfl,rfl⟩,hi4⟩
    refine u_op 10 rfl rfl (xe2 rfl rfl rfl ca_183 (c_spec_l1Below l i2 h2 3 _ hb hi2 (by decide)) ?_)
    rintro r S ⟨x3,i3,h3,⟨rfl,rfl⟩,hi3,hx3⟩
    refine u_any 8 [] ⟨?_,trivial⟩
    refine u_op 8 rfl rfl (EOp_light rfl (by decide) (L_load rfl (xb0 ty_3)) ?_)
    refine up_ 11 rfl xb2 ?_
    refine up_ 12 rfl xb5 ?_
    refine up_ 13 rfl (L_assign rfl) ?_
    refine u_done ?_
    refine E_ret ?_
    first
     | exact⟨_,[],rfl,rfl,_,i3,h3,⟨rfl,rfl⟩,hi3⟩
     | exact⟨_,[],rfl,rfl,_,i4,h4,⟨rfl,rfl⟩,hi4⟩
   refine u_op 10 rfl rfl (xe2 rfl rfl rfl ca_183 (c_spec_l1Below l i2 h2 3 _ hb hi2 (by decide)) ?_)
   rintro r S ⟨x3,i3,h3,⟨rfl,rfl⟩,hi3,hx3⟩
   refine u_any 1 [] ⟨?_,trivial⟩
   refine u_op 1 rfl rfl (EOp_light rfl (by decide) (L_load rfl (xb0 ty_22)) ?_)
   refine up_ 7 rfl (L_index rfl rfl (xii sl_22 ty_3)) ?_
   refine u_any 8 [] ⟨?_,trivial⟩
   refine u_op 8 rfl rfl (EOp_light rfl (by decide) (L_load rfl (xb0 ty_3)) ?_)
   refine up_ 11 rfl xb2 ?_
   refine up_ 12 rfl xb5 ?_
   refine up_ 13 rfl (L_assign rfl) ?_
   refine u_done ?_
   refine E_ret ?_
   first
    | exact⟨_,[],rfl,rfl,_,i3,h3,⟨rfl,rfl⟩,hi3⟩
    | exact⟨_,[],rfl,rfl,_,i4,h4,⟨rfl,rfl⟩,hi4⟩
  refine E_skip ?_
  refine E_seq ?_
  refine e_tidy_A121_2 [0,1,3,4,13] ?_
  refine E_region' (L:=[0,1,2,3]) rfl ?_
  refine xmv ?_
  refine EOps_go rfl rfl (Heavy.op (H_bslice rfl rfl (by decide) sl_22 ty_3 za_3 ⟨rfl,by decide⟩ (by decide) rfl rfl rfl rfl ?_))
  refine EOps_go rfl rfl (xe2 rfl rfl rfl ca_168 (c_spec_l1PickInt l _ _ _ 9 [0,3,-2,-1000,1000,50] 6 hb (by assumption) (by decide) rfl rfl) ?_)
  rintro r S ⟨x4,i4,h4,⟨rfl,rfl⟩,hi4,hx4⟩
  refine xas ?_
  refine EOps_nil ?_
  refine E_ret ?_
  first
   | exact⟨_,[],rfl,rfl,_,i3,h3,⟨rfl,rfl⟩,hi3⟩
   | exact⟨_,[],rfl,rfl,_,i4,h4,⟨rfl,rfl⟩,hi4⟩
 refine s_ rfl ?_
 refine s_ rfl ?_
 refine s_ rfl ?_
 refine p_ rfl (L_pick rfl rfl) ?_
 refine EOps_nil ?_
 refine E_cond rfl (fun hc13=>?_) (fun hc13=>?_)
 ·exact Bool.noConfusion (hc13:false=true)
 refine E_skip ?_
 refine E_seq ?_
 refine e_tidy_A121_2 [0,1,3,4,13] ?_
 refine E_region' (L:=[0,1,2,3]) rfl ?_
 refine xmv ?_
 refine EOps_go rfl rfl (Heavy.op (H_bslice rfl rfl (by decide) sl_22 ty_3 za_3 ⟨rfl,by decide⟩ (by decide) rfl rfl rfl rfl ?_))
 refine EOps_go rfl rfl (xe2 rfl rfl rfl ca_168 (c_spec_l1PickInt l _ _ _ 9 [0,3,-2,-1000,1000,50] 6 hb (by assumption) (by decide) rfl rfl) ?_)
 rintro r S ⟨x4,i4,h4,⟨rfl,rfl⟩,hi4,hx4⟩
 refine xas ?_
 refine EOps_nil ?_
 refine E_ret ?_
 first
  | exact⟨_,[],rfl,rfl,_,i3,h3,⟨rfl,rfl⟩,hi3⟩
  | exact⟨_,[],rfl,rfl,_,i4,h4,⟨rfl,rfl⟩,hi4⟩

set_option maxRecDepth 20000 in
set_option maxHeartbeats 4000000 in
theorem c_spec_l4Cracker_ac (l : List Int) (i h : Int) (hb : byL l) (hi : curOk l i) : EFn Tryz.prog 182 [.c (.bp 0 0)] [.box (curC l i h), .box [.sc (.slice none 0 0), .sc (.slice none 0 0), .sc (.slice none 0 0)], .box [.sc (.slice none 0 0), .sc (.slice none 0 0), .sc (.slice none 0 0)]] (fun r S => ∃ (Y : Crk) (i' h' : Int), (r = .agg (crkO 3 Y) ∧ S = [.box (curC l i' h'), .box [.sc (.slice none 0 0), .sc (.slice none 0 0), .sc (.slice none 0 0)], .box [.sc (.slice none 0 0), .sc (.slice none 0 0), .sc (.slice none 0 0)], .row 3 1 (ints Y.vals), .row 3 1 (ints Y.rows), .row 151 2 (pairs Y.piv)]) ∧ curOk l i' ∧ Y.vals.length ≤ 14 ∧ Y.rows.length ≤ 14 ∧ Y.piv.length ≤ 4) := by
 refine E_fn Tryz.func182 rfl (Nat.le_of_ble_eq_true rfl) ?_
 refine E_G (n:=3) rfl ?_
 refine G_seq ?_
 refine G_region' (L:=[0]) rfl ?_
 refine x_alloc rfl rfl rfl rfl za_49 ?_
 refine EOps_nil ?_
 refine G_seq ?_
 refine g_tidy_A121_3 [0,2] ?_
 refine G_region' (L:=[0,1,2,3,4]) rfl ?_
 refine xmv ?_
 refine EOps_go rfl rfl (xe2 rfl rfl rfl ca_193 (c_spec_l2Values_av l i h 14 hb hi (by decide)) ?_)
 rintro r S ⟨xs,i1,h1,⟨rfl,rfl⟩,hi1,hxs⟩
 refine x_call rfl rfl rfl rfl rfl ca_59 (c_spec_NewCracker xs (by omega)) ?_
 rintro r S ⟨rfl,rfl⟩
 have hY0:=newCrk_small xs
 generalize newCrk xs=Y0 at *
 refine x_alloc rfl rfl rfl rfl za_49 ?_
 refine EOps_go rfl rfl (EOp_store rfl rfl rfl (xb1 ty_49) ?_)
 refine EOps_nil ?_
 refine G_seq ?_
 refine G_seq ?_
 refine G_drop [0,2,3] [3,5,6,7,8] rfl rfl rfl ?_
 refine g_tidy_A121_3 [0,2,3] ?_
 refine G_region' (L:=[0,1,2]) rfl ?_
 refine xmv ?_
 refine EOps_go rfl rfl (xe2 rfl rfl rfl ca_183 (c_spec_l1Below l i1 h1 5 _ hb hi1 (by decide)) ?_)
 rintro r S ⟨x2,i2,h2,⟨rfl,rfl⟩,hi2,hx2⟩
 obtain⟨k,rfl⟩:∃ k:Nat,x2=(k:Int):=⟨x2.toNat,by omega⟩
 have hk1:=hx2.2.1 (by omega)
 refine xas ?_
 refine EOps_nil ?_
 refine G_block ?_
 refine g_forD_A121_4 (α:=Nat × Crk × Int × Int) [0,2,3] (fun (n,Y,i3,h3)=>[(4,.c (.sc (.int .i64 ((n:Int))))),(5,.any),(6,.any),(7,.any)]) (fun (n,Y,i3,h3)=>[.box (curC l i3 h3),.box [.sc (.slice none 0 0),.sc (.slice none 0 0),.sc (.slice none 0 0)],.box [.sc (.slice none 0 0),.sc (.slice none 0 0),.sc (.slice none 0 0)],.box [.sc (.slice none 0 0),.sc (.slice none 0 0),.sc (.slice none 0 0)],.row 3 1 (ints Y.vals),.row 3 1 (ints Y.rows),.row 151 2 (pairs Y.piv),.box (crkO 4 Y)]) (fun (n,Y,i3,h3)=>Y.vals.length≤14∧Y.rows.length≤14∧Y.piv.length+n≤4∧curOk l i3) (fun (n,Y,i3,h3)=>n) ((k,Y0,i2,h2)) ?_ (rfl) ⟨.inr rfl,.inl rfl,.inl rfl,.inl rfl,trivial⟩ ?_
 ·exact⟨by omega,by omega,by omega,hi2⟩
 rintro⟨n,Y,i3,h3⟩ ⟨hyv,hyr,hyp,hi3⟩
 dsimp only at *
 refine G_seq ?_
 refine G_seq ?_
 refine G_region' (L:=[0,1]) rfl ?_
 refine xmv ?_
 refine p_ rfl (L_bin rfl rfl rfl rfl) ?_
 refine EOps_nil ?_
 refine G_cond rfl (fun hc14=>?_) (fun hc14=>?_)
 ·have hn1 : 0 < n := by simp at hc14; omega
  refine G_skip ?_
  refine G_seq ?_
  refine G_block ?_
  refine g_seqD_A121_5 (α:=Int × Int × Int) [0,2,3,4,14] (fun (v,i4,h4)=>[(5,.c (.bp 11 0)),(6,.any),(7,.any)]) (fun (v,i4,h4)=>[.box (curC l i4 h4),.box [.sc (.slice none 0 0),.sc (.slice none 0 0),.sc (.slice none 0 0)],.box [.sc (.slice none 0 0),.sc (.slice none 0 0),.sc (.slice none 0 0)],.box [.sc (.slice none 0 0),.sc (.slice none 0 0),.sc (.slice none 0 0)],.row 3 1 (ints Y.vals),.row 3 1 (ints Y.rows),.row 151 2 (pairs Y.piv),.box (crkO 4 Y),.row 3 1 (ints (crkAtC Y v).vals),.row 3 1 (ints (crkAtC Y v).rows),.row 151 2 (pairs (crkAtC Y v).piv),.box (crkO 8 (crkAtC Y v))]) (fun (v,i4,h4)=>curOk l i4) ?_ ?_
  ·refine g_tidy_A121_3 [0, 2, 3, 4, 5, 14] ?_
   refine G_drawU mixed ?_
   refine up_ 1 rfl (L_move rfl) ?_
   refine u_any 0 [2,9] ⟨?_,?_,?_,trivial⟩
   ·refine u_op 0 rfl rfl (EOp_light rfl (by decide) (L_load rfl (xb3 ty_49)) ?_)
    refine u_any 2 [9] ⟨?_,?_,trivial⟩
    ·refine u_op 2 rfl rfl (EOp_light rfl (by decide) (L_load rfl (xb3 ty_49)) ?_)
     refine u_any 3 [9] ⟨?_,?_,trivial⟩
     ·first
       | (refine u_op 3 rfl rfl (xe2 rfl rfl rfl ca_119 (c_spec_l4Value_aw l i3 h3 Y hb hi3 (by omega)) ?_))
       | (refine u_op 3 rfl rfl (xe2 rfl rfl rfl ca_119 (c_spec_l4Value_awx l i3 h3 Y hb hi3 (by omega)) ?_))
      rintro r S ⟨v,i4,h4,⟨rfl,rfl⟩,hi4⟩
      refine u_any 4 [9] ⟨?_,?_,trivial⟩
      ·refine u_call 4 rfl rfl rfl rfl rfl ca_210 (c_spec_CrackAt Y v (by omega)) ?_
       rintro r S ⟨rfl,rfl⟩
       refine up_ 5 rfl (L_move rfl) ?_
       refine up_ 6 rfl (L_extract rfl rfl) ?_
       refine up_ 7 rfl (L_extract rfl rfl) ?_
       refine up_ 8 rfl (L_extract rfl rfl) ?_
       refine u_any 9 [] ⟨?_,trivial⟩
       refine u_op 9 rfl rfl (EOp_alloc rfl rfl (by decide) za_49 ?_)
       refine u_any 10 [] ⟨?_,trivial⟩
       refine u_op 10 rfl rfl (EOp_store rfl rfl rfl (xb1 ty_49) ?_)
       refine up_ 11 rfl (L_assign rfl) ?_
       refine up_ 12 rfl (L_assign rfl) ?_
       refine u_done ?_
       skip
       first
        | (refine⟨[3,4,5,6,7,8,9,10,12],rfl,(v,i4,h4),?_,rfl,⟨.inr rfl,.inl rfl,.inl rfl,trivial⟩,⟨.inr rfl,.inr rfl,.inr rfl,.inr rfl,.inr rfl,trivial⟩⟩)
        | (refine⟨[3,4,5,6,7,9,10,11,8],rfl,(v,i4,h4),?_,rfl,⟨.inr rfl,.inl rfl,.inl rfl,trivial⟩,⟨.inr rfl,.inr rfl,.inr rfl,.inr rfl,.inr rfl,trivial⟩⟩)
       exact hi4
      refine u_op 9 rfl rfl (EOp_alloc rfl rfl (by decide) za_49 ?_)
      refine u_any 4 [] ⟨?_,trivial⟩
      refine u_call 4 rfl rfl rfl rfl rfl ca_210 (c_spec_CrackAt Y v (by omega)) ?_
      rintro r S ⟨rfl,rfl⟩
      refine up_ 5 rfl (L_move rfl) ?_
      refine up_ 6 rfl (L_extract rfl rfl) ?_
      refine up_ 7 rfl (L_extract rfl rfl) ?_
      refine up_ 8 rfl (L_extract rfl rfl) ?_
      refine u_any 10 [] ⟨?_,trivial⟩
      refine u_op 10 rfl rfl (EOp_store rfl rfl rfl (xb1 ty_49) ?_)
      refine up_ 11 rfl (L_assign rfl) ?_
      refine up_ 12 rfl (L_assign rfl) ?_
      refine u_done ?_
      skip
      first
       | (refine⟨[3,4,5,6,7,8,9,10,12],rfl,(v,i4,h4),?_,rfl,⟨.inr rfl,.inl rfl,.inl rfl,trivial⟩,⟨.inr rfl,.inr rfl,.inr rfl,.inr rfl,.inr rfl,trivial⟩⟩)
       | (refine⟨[3,4,5,6,7,9,10,11,8],rfl,(v,i4,h4),?_,rfl,⟨.inr rfl,.inl rfl,.inl rfl,trivial⟩,⟨.inr rfl,.inr rfl,.inr rfl,.inr rfl,.inr rfl,trivial⟩⟩)
      exact hi4
     refine u_op 9 rfl rfl (EOp_alloc rfl rfl (by decide) za_49 ?_)
     refine u_any 3 [] ⟨?_,trivial⟩
     first
      | (refine u_op 3 rfl rfl (xe2 rfl rfl rfl ca_119 (c_spec_l4Value_aw l i3 h3 Y hb hi3 (by omega)) ?_))
      | (refine u_op 3 rfl rfl (xe2 rfl rfl rfl ca_119 (c_spec_l4Value_awx l i3 h3 Y hb hi3 (by omega)) ?_))
     rintro r S ⟨v,i4,h4,⟨rfl,rfl⟩,hi4⟩
     refine u_any 4 [] ⟨?_,trivial⟩
     refine u_call 4 rfl rfl rfl rfl rfl ca_210 (c_spec_CrackAt Y v (by omega)) ?_
     rintro r S ⟨rfl,rfl⟩
     refine up_ 5 rfl (L_move rfl) ?_
     refine up_ 6 rfl (L_extract rfl rfl) ?_
     refine up_ 7 rfl (L_extract rfl rfl) ?_
     refine up_ 8 rfl (L_extract rfl rfl) ?_
     refine u_any 10 [] ⟨?_,trivial⟩
     refine u_op 10 rfl rfl (EOp_store rfl rfl rfl (xb1 ty_49) ?_)
     refine up_ 11 rfl (L_assign rfl) ?_
     refine up_ 12 rfl (L_assign rfl) ?_
     refine u_done ?_
     skip
     first
      | (refine⟨[3,4,5,6,7,8,9,10,12],rfl,(v,i4,h4),?_,rfl,⟨.inr rfl,.inl rfl,.inl rfl,trivial⟩,⟨.inr rfl,.inr rfl,.inr rfl,.inr rfl,.inr rfl,trivial⟩⟩)
      | (refine⟨[3,4,5,6,7,9,10,11,8],rfl,(v,i4,h4),?_,rfl,⟨.inr rfl,.inl rfl,.inl rfl,trivial⟩,⟨.inr rfl,.inr rfl,.inr rfl,.inr rfl,.inr rfl,trivial⟩⟩)
     exact hi4
    refine u_op 9 rfl rfl (EOp_alloc rfl rfl (by decide) za_49 ?_)
    refine u_any 2 [] ⟨?_,trivial⟩
    refine u_op 2 rfl rfl (EOp_light rfl (by decide) (L_load rfl (xb0 ty_49)) ?_)
    refine u_any 3 [] ⟨?_,trivial⟩
    first
     | (refine u_op 3 rfl rfl (xe2 rfl rfl rfl ca_119 (c_spec_l4Value_aw l i3 h3 Y hb hi3 (by omega)) ?_))
     | (refine u_op 3 rfl rfl (xe2 rfl rfl rfl ca_119 (c_spec_l4Value_awx l i3 h3 Y hb hi3 (by omega)) ?_))
    rintro r S ⟨v,i4,h4,⟨rfl,rfl⟩,hi4⟩
    refine u_any 4 [] ⟨?_,trivial⟩
    refine u_call 4 rfl rfl rfl rfl rfl ca_210 (c_spec_CrackAt Y v (by omega)) ?_
    rintro r S ⟨rfl,rfl⟩
    refine up_ 5 rfl (L_move rfl) ?_
    refine up_ 6 rfl (L_extract rfl rfl) ?_
    refine up_ 7 rfl (L_extract rfl rfl) ?_
    refine up_ 8 rfl (L_extract rfl rfl) ?_
    refine u_any 10 [] ⟨?_,trivial⟩
    refine u_op 10 rfl rfl (EOp_store rfl rfl rfl (xb1 ty_49) ?_)
    refine up_ 11 rfl (L_assign rfl) ?_
    refine up_ 12 rfl (L_assign rfl) ?_
    refine u_done ?_
    skip
    first
     | (refine⟨[3,4,5,6,7,8,9,10,12],rfl,(v,i4,h4),?_,rfl,⟨.inr rfl,.inl rfl,.inl rfl,trivial⟩,⟨.inr rfl,.inr rfl,.inr rfl,.inr rfl,.inr rfl,trivial⟩⟩)
     | (refine⟨[3,4,5,6,7,9,10,11,8],rfl,(v,i4,h4),?_,rfl,⟨.inr rfl,.inl rfl,.inl rfl,trivial⟩,⟨.inr rfl,.inr rfl,.inr rfl,.inr rfl,.inr rfl,trivial⟩⟩)
    exact hi4
   ·refine u_op 2 rfl rfl (EOp_light rfl (by decide) (L_load rfl (xb3 ty_49)) ?_)
    refine u_any 0 [3,9] ⟨?_,?_,?_,trivial⟩
    ·refine u_op 0 rfl rfl (EOp_light rfl (by decide) (L_load rfl (xb3 ty_49)) ?_)
     refine u_any 3 [9] ⟨?_,?_,trivial⟩
     ·first
       | (refine u_op 3 rfl rfl (xe2 rfl rfl rfl ca_119 (c_spec_l4Value_aw l i3 h3 Y hb hi3 (by omega)) ?_))
       | (refine u_op 3 rfl rfl (xe2 rfl rfl rfl ca_119 (c_spec_l4Value_awx l i3 h3 Y hb hi3 (by omega)) ?_))
      rintro r S ⟨v,i4,h4,⟨rfl,rfl⟩,hi4⟩
      refine u_any 4 [9] ⟨?_,?_,trivial⟩
      ·refine u_call 4 rfl rfl rfl rfl rfl ca_210 (c_spec_CrackAt Y v (by omega)) ?_
       rintro r S ⟨rfl,rfl⟩
       refine up_ 5 rfl (L_move rfl) ?_
       refine up_ 6 rfl (L_extract rfl rfl) ?_
       refine up_ 7 rfl (L_extract rfl rfl) ?_
       refine up_ 8 rfl (L_extract rfl rfl) ?_
       refine u_any 9 [] ⟨?_,trivial⟩
       refine u_op 9 rfl rfl (EOp_alloc rfl rfl (by decide) za_49 ?_)
       refine u_any 10 [] ⟨?_,trivial⟩
       refine u_op 10 rfl rfl (EOp_store rfl rfl rfl (xb1 ty_49) ?_)
       refine up_ 11 rfl (L_assign rfl) ?_
       refine up_ 12 rfl (L_assign rfl) ?_
       refine u_done ?_
       skip
       first
        | (refine⟨[3,4,5,6,7,8,9,10,12],rfl,(v,i4,h4),?_,rfl,⟨.inr rfl,.inl rfl,.inl rfl,trivial⟩,⟨.inr rfl,.inr rfl,.inr rfl,.inr rfl,.inr rfl,trivial⟩⟩)
        | (refine⟨[3,4,5,6,7,9,10,11,8],rfl,(v,i4,h4),?_,rfl,⟨.inr rfl,.inl rfl,.inl rfl,trivial⟩,⟨.inr rfl,.inr rfl,.inr rfl,.inr rfl,.inr rfl,trivial⟩⟩)
       exact hi4
      refine u_op 9 rfl rfl (EOp_alloc rfl rfl (by decide) za_49 ?_)
      refine u_any 4 [] ⟨?_,trivial⟩
      refine u_call 4 rfl rfl rfl rfl rfl ca_210 (c_spec_CrackAt Y v (by omega)) ?_
      rintro r S ⟨rfl,rfl⟩
      refine up_ 5 rfl (L_move rfl) ?_
      refine up_ 6 rfl (L_extract rfl rfl) ?_
      refine up_ 7 rfl (L_extract rfl rfl) ?_
      refine up_ 8 rfl (L_extract rfl rfl) ?_
      refine u_any 10 [] ⟨?_,trivial⟩
      refine u_op 10 rfl rfl (EOp_store rfl rfl rfl (xb1 ty_49) ?_)
      refine up_ 11 rfl (L_assign rfl) ?_
      refine up_ 12 rfl (L_assign rfl) ?_
      refine u_done ?_
      skip
      first
       | (refine⟨[3,4,5,6,7,8,9,10,12],rfl,(v,i4,h4),?_,rfl,⟨.inr rfl,.inl rfl,.inl rfl,trivial⟩,⟨.inr rfl,.inr rfl,.inr rfl,.inr rfl,.inr rfl,trivial⟩⟩)
       | (refine⟨[3,4,5,6,7,9,10,11,8],rfl,(v,i4,h4),?_,rfl,⟨.inr rfl,.inl rfl,.inl rfl,trivial⟩,⟨.inr rfl,.inr rfl,.inr rfl,.inr rfl,.inr rfl,trivial⟩⟩)
      exact hi4
     refine u_op 9 rfl rfl (EOp_alloc rfl rfl (by decide) za_49 ?_)
     refine u_any 3 [] ⟨?_,trivial⟩
     first
      | (refine u_op 3 rfl rfl (xe2 rfl rfl rfl ca_119 (c_spec_l4Value_aw l i3 h3 Y hb hi3 (by omega)) ?_))
      | (refine u_op 3 rfl rfl (xe2 rfl rfl rfl ca_119 (c_spec_l4Value_awx l i3 h3 Y hb hi3 (by omega)) ?_))
     rintro r S ⟨v,i4,h4,⟨rfl,rfl⟩,hi4⟩
     refine u_any 4 [] ⟨?_,trivial⟩
     refine u_call 4 rfl rfl rfl rfl rfl ca_210 (c_spec_CrackAt Y v (by omega)) ?_
     rintro r S ⟨rfl,rfl⟩
     refine up_ 5 rfl (L_move rfl) ?_
     refine up_ 6 rfl (L_extract rfl rfl) ?_
     refine up_ 7 rfl (L_extract rfl rfl) ?_
     refine up_ 8 rfl (L_extract rfl rfl) ?_
     refine u_any 10 [] ⟨?_,trivial⟩
     refine u_op 10 rfl rfl (EOp_store rfl rfl rfl (xb1 ty_49) ?_)
     refine up_ 11 rfl (L_assign rfl) ?_
     refine up_ 12 rfl (L_assign rfl) ?_
     refine u_done ?_
     skip
     first
      | (refine⟨[3,4,5,6,7,8,9,10,12],rfl,(v,i4,h4),?_,rfl,⟨.inr rfl,.inl rfl,.inl rfl,trivial⟩,⟨.inr rfl,.inr rfl,.inr rfl,.inr rfl,.inr rfl,trivial⟩⟩)
      | (refine⟨[3,4,5,6,7,9,10,11,8],rfl,(v,i4,h4),?_,rfl,⟨.inr rfl,.inl rfl,.inl rfl,trivial⟩,⟨.inr rfl,.inr rfl,.inr rfl,.inr rfl,.inr rfl,trivial⟩⟩)
     exact hi4
    ·first
      | (refine u_op 3 rfl rfl (xe2 rfl rfl rfl ca_119 (c_spec_l4Value_aw l i3 h3 Y hb hi3 (by omega)) ?_))
      | (refine u_op 3 rfl rfl (xe2 rfl rfl rfl ca_119 (c_spec_l4Value_awx l i3 h3 Y hb hi3 (by omega)) ?_))
     rintro r S ⟨v,i4,h4,⟨rfl,rfl⟩,hi4⟩
     refine u_any 0 [9] ⟨?_,?_,trivial⟩
     ·refine u_op 0 rfl rfl (EOp_light rfl (by decide) (L_load rfl (xb3 ty_49)) ?_)
      refine u_any 4 [9] ⟨?_,?_,trivial⟩
      ·refine u_call 4 rfl rfl rfl rfl rfl ca_210 (c_spec_CrackAt Y v (by omega)) ?_
       rintro r S ⟨rfl,rfl⟩
       refine up_ 5 rfl (L_move rfl) ?_
       refine up_ 6 rfl (L_extract rfl rfl) ?_
       refine up_ 7 rfl (L_extract rfl rfl) ?_
       refine up_ 8 rfl (L_extract rfl rfl) ?_
       refine u_any 9 [] ⟨?_,trivial⟩
       refine u_op 9 rfl rfl (EOp_alloc rfl rfl (by decide) za_49 ?_)
       refine u_any 10 [] ⟨?_,trivial⟩
       refine u_op 10 rfl rfl (EOp_store rfl rfl rfl (xb1 ty_49) ?_)
       refine up_ 11 rfl (L_assign rfl) ?_
       refine up_ 12 rfl (L_assign rfl) ?_
       refine u_done ?_
       skip
       first
        | (refine⟨[3,4,5,6,7,8,9,10,12],rfl,(v,i4,h4),?_,rfl,⟨.inr rfl,.inl rfl,.inl rfl,trivial⟩,⟨.inr rfl,.inr rfl,.inr rfl,.inr rfl,.inr rfl,trivial⟩⟩)
        | (refine⟨[3,4,5,6,7,9,10,11,8],rfl,(v,i4,h4),?_,rfl,⟨.inr rfl,.inl rfl,.inl rfl,trivial⟩,⟨.inr rfl,.inr rfl,.inr rfl,.inr rfl,.inr rfl,trivial⟩⟩)
       exact hi4
      refine u_op 9 rfl rfl (EOp_alloc rfl rfl (by decide) za_49 ?_)
      refine u_any 4 [] ⟨?_,trivial⟩
      refine u_call 4 rfl rfl rfl rfl rfl ca_210 (c_spec_CrackAt Y v (by omega)) ?_
      rintro r S ⟨rfl,rfl⟩
      refine up_ 5 rfl (L_move rfl) ?_
      refine up_ 6 rfl (L_extract rfl rfl) ?_
      refine up_ 7 rfl (L_extract rfl rfl) ?_
      refine up_ 8 rfl (L_extract rfl rfl) ?_
      refine u_any 10 [] ⟨?_,trivial⟩
      refine u_op 10 rfl rfl (EOp_store rfl rfl rfl (xb1 ty_49) ?_)
      refine up_ 11 rfl (L_assign rfl) ?_
      refine up_ 12 rfl (L_assign rfl) ?_
      refine u_done ?_
      skip
      first
       | (refine⟨[3,4,5,6,7,8,9,10,12],rfl,(v,i4,h4),?_,rfl,⟨.inr rfl,.inl rfl,.inl rfl,trivial⟩,⟨.inr rfl,.inr rfl,.inr rfl,.inr rfl,.inr rfl,trivial⟩⟩)
       | (refine⟨[3,4,5,6,7,9,10,11,8],rfl,(v,i4,h4),?_,rfl,⟨.inr rfl,.inl rfl,.inl rfl,trivial⟩,⟨.inr rfl,.inr rfl,.inr rfl,.inr rfl,.inr rfl,trivial⟩⟩)
      exact hi4
     refine u_op 9 rfl rfl (EOp_alloc rfl rfl (by decide) za_49 ?_)
     refine u_any 0 [] ⟨?_,trivial⟩
     refine u_op 0 rfl rfl (EOp_light rfl (by decide) (L_load rfl (xb0 ty_49)) ?_)
     refine u_any 4 [] ⟨?_,trivial⟩
     refine u_call 4 rfl rfl rfl rfl rfl ca_210 (c_spec_CrackAt Y v (by omega)) ?_
     rintro r S ⟨rfl,rfl⟩
     refine up_ 5 rfl (L_move rfl) ?_
     refine up_ 6 rfl (L_extract rfl rfl) ?_
     refine up_ 7 rfl (L_extract rfl rfl) ?_
     refine up_ 8 rfl (L_extract rfl rfl) ?_
     refine u_any 10 [] ⟨?_,trivial⟩
     refine u_op 10 rfl rfl (EOp_store rfl rfl rfl (xb1 ty_49) ?_)
     refine up_ 11 rfl (L_assign rfl) ?_
     refine up_ 12 rfl (L_assign rfl) ?_
     refine u_done ?_
     skip
     first
      | (refine⟨[3,4,5,6,7,8,9,10,12],rfl,(v,i4,h4),?_,rfl,⟨.inr rfl,.inl rfl,.inl rfl,trivial⟩,⟨.inr rfl,.inr rfl,.inr rfl,.inr rfl,.inr rfl,trivial⟩⟩)
      | (refine⟨[3,4,5,6,7,9,10,11,8],rfl,(v,i4,h4),?_,rfl,⟨.inr rfl,.inl rfl,.inl rfl,trivial⟩,⟨.inr rfl,.inr rfl,.inr rfl,.inr rfl,.inr rfl,trivial⟩⟩)
     exact hi4
    refine u_op 9 rfl rfl (EOp_alloc rfl rfl (by decide) za_49 ?_)
    refine u_any 0 [3] ⟨?_,?_,trivial⟩
    ·refine u_op 0 rfl rfl (EOp_light rfl (by decide) (L_load rfl (xb3 ty_49)) ?_)
     refine u_any 3 [] ⟨?_,trivial⟩
     first
      | (refine u_op 3 rfl rfl (xe2 rfl rfl rfl ca_119 (c_spec_l4Value_aw l i3 h3 Y hb hi3 (by omega)) ?_))
      | (refine u_op 3 rfl rfl (xe2 rfl rfl rfl ca_119 (c_spec_l4Value_awx l i3 h3 Y hb hi3 (by omega)) ?_))
     rintro r S ⟨v,i4,h4,⟨rfl,rfl⟩,hi4⟩
     refine u_any 4 [] ⟨?_,trivial⟩
     refine u_call 4 rfl rfl rfl rfl rfl ca_210 (c_spec_CrackAt Y v (by omega)) ?_
     rintro r S ⟨rfl,rfl⟩
     refine up_ 5 rfl (L_move rfl) ?_
     refine up_ 6 rfl (L_extract rfl rfl) ?_
     refine up_ 7 rfl (L_extract rfl rfl) ?_
     refine up_ 8 rfl (L_extract rfl rfl) ?_
     refine u_any 10 [] ⟨?_,trivial⟩
     refine u_op 10 rfl rfl (EOp_store rfl rfl rfl (xb1 ty_49) ?_)
     refine up_ 11 rfl (L_assign rfl) ?_
     refine up_ 12 rfl (L_assign rfl) ?_
     refine u_done ?_
     skip
     first
      | (refine⟨[3,4,5,6,7,8,9,10,12],rfl,(v,i4,h4),?_,rfl,⟨.inr rfl,.inl rfl,.inl rfl,trivial⟩,⟨.inr rfl,.inr rfl,.inr rfl,.inr rfl,.inr rfl,trivial⟩⟩)
      | (refine⟨[3,4,5,6,7,9,10,11,8],rfl,(v,i4,h4),?_,rfl,⟨.inr rfl,.inl rfl,.inl rfl,trivial⟩,⟨.inr rfl,.inr rfl,.inr rfl,.inr rfl,.inr rfl,trivial⟩⟩)
     exact hi4
    first
     | (refine u_op 3 rfl rfl (xe2 rfl rfl rfl ca_119 (c_spec_l4Value_aw l i3 h3 Y hb hi3 (by omega)) ?_))
     | (refine u_op 3 rfl rfl (xe2 rfl rfl rfl ca_119 (c_spec_l4Value_awx l i3 h3 Y hb hi3 (by omega)) ?_))
    rintro r S ⟨v,i4,h4,⟨rfl,rfl⟩,hi4⟩
    refine u_any 0 [] ⟨?_,trivial⟩
    refine u_op 0 rfl rfl (EOp_light rfl (by decide) (L_load rfl (xb0 ty_49)) ?_)
    refine u_any 4 [] ⟨?_,trivial⟩
    refine u_call 4 rfl rfl rfl rfl rfl ca_210 (c_spec_CrackAt Y v (by omega)) ?_
    rintro r S ⟨rfl,rfl⟩
    refine up_ 5 rfl (L_move rfl) ?_
    refine up_ 6 rfl (L_extract rfl rfl) ?_
    refine up_ 7 rfl (L_extract rfl rfl) ?_
    refine up_ 8 rfl (L_extract rfl rfl) ?_
    refine u_any 10 [] ⟨?_,trivial⟩
    refine u_op 10 rfl rfl (EOp_store rfl rfl rfl (xb1 ty_49) ?_)
    refine up_ 11 rfl (L_assign rfl) ?_
    refine up_ 12 rfl (L_assign rfl) ?_
    refine u_done ?_
    skip
    first
     | (refine⟨[3,4,5,6,7,8,9,10,12],rfl,(v,i4,h4),?_,rfl,⟨.inr rfl,.inl rfl,.inl rfl,trivial⟩,⟨.inr rfl,.inr rfl,.inr rfl,.inr rfl,.inr rfl,trivial⟩⟩)
     | (refine⟨[3,4,5,6,7,9,10,11,8],rfl,(v,i4,h4),?_,rfl,⟨.inr rfl,.inl rfl,.inl rfl,trivial⟩,⟨.inr rfl,.inr rfl,.inr rfl,.inr rfl,.inr rfl,trivial⟩⟩)
    exact hi4
   refine u_op 9 rfl rfl (EOp_alloc rfl rfl (by decide) za_49 ?_)
   refine u_any 0 [2] ⟨?_,?_,trivial⟩
   ·refine u_op 0 rfl rfl (EOp_light rfl (by decide) (L_load rfl (xb3 ty_49)) ?_)
    refine u_any 2 [] ⟨?_,trivial⟩
    refine u_op 2 rfl rfl (EOp_light rfl (by decide) (L_load rfl (xb0 ty_49)) ?_)
    refine u_any 3 [] ⟨?_,trivial⟩
    first
     | (refine u_op 3 rfl rfl (xe2 rfl rfl rfl ca_119 (c_spec_l4Value_aw l i3 h3 Y hb hi3 (by omega)) ?_))
     | (refine u_op 3 rfl rfl (xe2 rfl rfl rfl ca_119 (c_spec_l4Value_awx l i3 h3 Y hb hi3 (by omega)) ?_))
    rintro r S ⟨v,i4,h4,⟨rfl,rfl⟩,hi4⟩
    refine u_any 4 [] ⟨?_,trivial⟩
    refine u_call 4 rfl rfl rfl rfl rfl ca_210 (c_spec_CrackAt Y v (by omega)) ?_
    rintro r S ⟨rfl,rfl⟩
    refine up_ 5 rfl (L_move rfl) ?_
    refine up_ 6 rfl (L_extract rfl rfl) ?_
    refine up_ 7 rfl (L_extract rfl rfl) ?_
    refine up_ 8 rfl (L_extract rfl rfl) ?_
    refine u_any 10 [] ⟨?_,trivial⟩
    refine u_op 10 rfl rfl (EOp_store rfl rfl rfl (xb1 ty_49) ?_)
    refine up_ 11 rfl (L_assign rfl) ?_
    refine up_ 12 rfl (L_assign rfl) ?_
    refine u_done ?_
    skip
    first
     | (refine⟨[3,4,5,6,7,8,9,10,12],rfl,(v,i4,h4),?_,rfl,⟨.inr rfl,.inl rfl,.inl rfl,trivial⟩,⟨.inr rfl,.inr rfl,.inr rfl,.inr rfl,.inr rfl,trivial⟩⟩)
     | (refine⟨[3,4,5,6,7,9,10,11,8],rfl,(v,i4,h4),?_,rfl,⟨.inr rfl,.inl rfl,.inl rfl,trivial⟩,⟨.inr rfl,.inr rfl,.inr rfl,.inr rfl,.inr rfl,trivial⟩⟩)
    exact hi4
   refine u_op 2 rfl rfl (EOp_light rfl (by decide) (L_load rfl (xb3 ty_49)) ?_)
   refine u_any 0 [3] ⟨?_,?_,trivial⟩
   ·refine u_op 0 rfl rfl (EOp_light rfl (by decide) (L_load rfl (xb3 ty_49)) ?_)
    refine u_any 3 [] ⟨?_,trivial⟩
    first
     | (refine u_op 3 rfl rfl (xe2 rfl rfl rfl ca_119 (c_spec_l4Value_aw l i3 h3 Y hb hi3 (by omega)) ?_))
     | (refine u_op 3 rfl rfl (xe2 rfl rfl rfl ca_119 (c_spec_l4Value_awx l i3 h3 Y hb hi3 (by omega)) ?_))
    rintro r S ⟨v,i4,h4,⟨rfl,rfl⟩,hi4⟩
    refine u_any 4 [] ⟨?_,trivial⟩
    refine u_call 4 rfl rfl rfl rfl rfl ca_210 (c_spec_CrackAt Y v (by omega)) ?_
    rintro r S ⟨rfl,rfl⟩
    refine up_ 5 rfl (L_move rfl) ?_
    refine up_ 6 rfl (L_extract rfl rfl) ?_
    refine up_ 7 rfl (L_extract rfl rfl) ?_
    refine up_ 8 rfl (L_extract rfl rfl) ?_
    refine u_any 10 [] ⟨?_,trivial⟩
    refine u_op 10 rfl rfl (EOp_store rfl rfl rfl (xb1 ty_49) ?_)
    refine up_ 11 rfl (L_assign rfl) ?_
    refine up_ 12 rfl (L_assign rfl) ?_
    refine u_done ?_
    skip
    first
     | (refine⟨[3,4,5,6,7,8,9,10,12],rfl,(v,i4,h4),?_,rfl,⟨.inr rfl,.inl rfl,.inl rfl,trivial⟩,⟨.inr rfl,.inr rfl,.inr rfl,.inr rfl,.inr rfl,trivial⟩⟩)
     | (refine⟨[3,4,5,6,7,9,10,11,8],rfl,(v,i4,h4),?_,rfl,⟨.inr rfl,.inl rfl,.inl rfl,trivial⟩,⟨.inr rfl,.inr rfl,.inr rfl,.inr rfl,.inr rfl,trivial⟩⟩)
    exact hi4
   first
    | (refine u_op 3 rfl rfl (xe2 rfl rfl rfl ca_119 (c_spec_l4Value_aw l i3 h3 Y hb hi3 (by omega)) ?_))
    | (refine u_op 3 rfl rfl (xe2 rfl rfl rfl ca_119 (c_spec_l4Value_awx l i3 h3 Y hb hi3 (by omega)) ?_))
   rintro r S ⟨v,i4,h4,⟨rfl,rfl⟩,hi4⟩
   refine u_any 0 [] ⟨?_,trivial⟩
   refine u_op 0 rfl rfl (EOp_light rfl (by decide) (L_load rfl (xb0 ty_49)) ?_)
   refine u_any 4 [] ⟨?_,trivial⟩
   refine u_call 4 rfl rfl rfl rfl rfl ca_210 (c_spec_CrackAt Y v (by omega)) ?_
   rintro r S ⟨rfl,rfl⟩
   refine up_ 5 rfl (L_move rfl) ?_
   refine up_ 6 rfl (L_extract rfl rfl) ?_
   refine up_ 7 rfl (L_extract rfl rfl) ?_
   refine up_ 8 rfl (L_extract rfl rfl) ?_
   refine u_any 10 [] ⟨?_,trivial⟩
   refine u_op 10 rfl rfl (EOp_store rfl rfl rfl (xb1 ty_49) ?_)
   refine up_ 11 rfl (L_assign rfl) ?_
   refine up_ 12 rfl (L_assign rfl) ?_
   refine u_done ?_
   skip
   first
    | (refine⟨[3,4,5,6,7,8,9,10,12],rfl,(v,i4,h4),?_,rfl,⟨.inr rfl,.inl rfl,.inl rfl,trivial⟩,⟨.inr rfl,.inr rfl,.inr rfl,.inr rfl,.inr rfl,trivial⟩⟩)
    | (refine⟨[3,4,5,6,7,9,10,11,8],rfl,(v,i4,h4),?_,rfl,⟨.inr rfl,.inl rfl,.inl rfl,trivial⟩,⟨.inr rfl,.inr rfl,.inr rfl,.inr rfl,.inr rfl,trivial⟩⟩)
   exact hi4
  rintro⟨v,i4,h4⟩ hi4
  refine G_region' (L:=[0,1]) rfl ?_
  refine l_ rfl (L_load rfl (xb0 ty_49)) ?_
  refine EOps_go rfl rfl (EOp_store rfl rfl rfl (xb1 ty_49) ?_)
  refine EOps_nil ?_
  refine G_region' (L:=[0,1,2]) rfl ?_
  refine xmv ?_
  refine p_ rfl xb5 ?_
  refine xas ?_
  refine EOps_nil ?_
  refine⟨[3,8,9,10,7],rfl,(n - 1,crkAtC Y v,i4,h4),?_,?_,rfl,⟨.inr (int_eq (by first|omega|(dsimp only;omega))),.inl rfl,.inl rfl,.inl rfl,trivial⟩,⟨.inr rfl,.inr rfl,.inr rfl,trivial⟩⟩
  ·dsimp only;omega
  exact⟨by have:=crkAtC_small Y v;dsimp only;omega,by have:=crkAtC_small Y v;dsimp only;omega,by have:=crkAtC_small Y v;dsimp only;omega,hi4⟩
 refine G_exit ?_
 refine G_seq ?_
 refine G_region' (L:=[0,1]) rfl ?_
 refine l_ rfl (L_load rfl (xb0 ty_49)) ?_
 refine EOps_go rfl rfl (EOp_store rfl rfl rfl (xb1 ty_49) ?_)
 refine EOps_nil ?_
 refine G_ret ?_
 exact⟨_,[4,5,6],rfl,rfl,Y,i3,h3,⟨rfl,rfl⟩,hi3,hyv,hyr,by omega⟩

set_option maxRecDepth 20000 in
set_option maxHeartbeats 4000000 in
theorem c_spec_l4Any_a (l : List Int) (i h : Int) (hb : byL l) (hi : curOk l i) : EFn Tryz.prog 111 [.c (.bp 0 0)] [.box (curC l i h), .box [.sc (.slice none 0 0), .sc (.slice none 0 0), .sc (.slice none 0 0)]] (fun r S => ∃ (Y : Crk) (i' h' : Int), (r = .agg (crkO 2 Y) ∧ S = [.box (curC l i' h'), .box [.sc (.slice none 0 0), .sc (.slice none 0 0), .sc (.slice none 0 0)], .row 3 1 (ints Y.vals), .row 3 1 (ints Y.rows), .row 151 2 (pairs Y.piv)]) ∧ curOk l i' ∧ Y.vals.length ≤ 14 ∧ Y.rows.length ≤ 15 ∧ Y.piv.length ≤ 5) := by
  refine E_fn Tryz.func111 rfl (Nat.le_of_ble_eq_true rfl) ?_
  refine E_seq ?_
  refine E_region' (L:=[0]) rfl ?_
  refine x_alloc rfl rfl rfl rfl za_49 ?_
  refine EOps_nil ?_
  refine E_seq ?_
  refine e_tidy_A121_6 [0,2] ?_
  refine E_region' (L:=[0,1,2,3]) rfl ?_
  refine xmv ?_
  refine EOps_go rfl rfl (xe1 rfl rfl rfl ca_182 (c_spec_l4Cracker_ac l i h hb hi) ?_)
  rintro r S ⟨Y,i1,h1,⟨rfl,rfl⟩,hi1,hyv,hyr,hyp⟩
  refine x_alloc rfl rfl rfl rfl za_49 ?_
  refine EOps_go rfl rfl (EOp_store rfl rfl rfl (xb1 ty_49) ?_)
  refine EOps_nil ?_
  refine E_seq ?_
  refine E_seq ?_
  refine e_tidy_A121_6 [0,2,3] ?_
  refine E_region' (L:=[0,1]) rfl ?_
  refine xmv ?_
  refine EOps_go rfl rfl (xe2 rfl rfl rfl ca_183 (c_spec_l1Below l i1 h1 12 _ hb hi1 (by decide)) ?_)
  rintro r S ⟨x2,i2,h2,⟨rfl,rfl⟩,hi2,hx2⟩
  refine EOps_nil ?_
  refine E_block ?_
  refine E_seq ?_
  refine E_region' (L:=[0,1]) rfl ?_
  refine p_ rfl (L_bin rfl rfl rfl rfl) ?_
  refine xas ?_
  refine EOps_nil ?_
  refine E_cond rfl (fun hc8=>?_) (fun hc8=>?_)
  · refine E_seq ?_
    refine E_region' (L:=[0,1,2,3]) rfl ?_
    refine p_ rfl (l_field rfl fo_49_0) ?_
    refine l_ rfl (L_load rfl (xb0 ty_22)) ?_
    refine p_ rfl (l_len rfl sl_22) ?_
    refine p_ rfl (L_bin rfl rfl rfl rfl) ?_
    refine EOps_nil ?_
    refine E_cond rfl (fun hc13=>?_) (fun hc13=>?_)
    · have hvp : 0 < Y.vals.length := by simp at hc13; omega
      obtain⟨y0,hy0⟩:=at_lt (l:=Y.vals) (k:=0) hvp
      refine e_tidy_A121_6 [0,2,3,7,8,13] ?_
      refine E_drawU mixed ?_
      refine up_ 0 rfl (l_field rfl fo_49_0) ?_
      refine up_ 2 rfl (L_move rfl) ?_
      refine u_any 1 [3] ⟨?_,?_,trivial⟩
      · refine u_op 1 rfl rfl (EOp_light rfl (by decide) (L_load rfl (xb3 ty_22)) ?_)
        refine u_any 3 [] ⟨?_,trivial⟩
        refine u_op 3 rfl rfl (Heavy.op (H_bslice rfl rfl (by decide) sl_22 ty_3 za_3 ⟨rfl,by decide⟩ (by decide) rfl rfl rfl rfl ?_))
        refine u_any 4 [] ⟨?_,trivial⟩
        refine u_op 4 rfl rfl (xe2 rfl rfl rfl ca_168 (c_spec_l1PickInt l i2 h2 _ 6 [0,999,1000,-5] 4 hb hi2 (by decide) rfl rfl) ?_)
        rintro r S ⟨x3,i3,h3,⟨rfl,rfl⟩,hi3,hx3⟩
        refine up_ 5 rfl (L_index rfl rfl (xii sl_22 ty_3)) ?_
        refine u_any 6 [] ⟨?_,trivial⟩
        refine u_op 6 rfl rfl (EOp_store rfl rfl rfl (xb1 ty_3) ?_)
        refine u_done ?_
        refine E_seq ?_
        refine E_region' (L:=[0,1]) rfl ?_
        refine l_ rfl (L_load rfl (xb0 ty_49)) ?_
        refine EOps_go rfl rfl (EOp_store rfl rfl rfl (xb1 ty_49) ?_)
        refine EOps_nil ?_
        refine E_ret ?_
        first
          | exact⟨_,[3,4,5],rfl,rfl,Y,i2,h2,⟨rfl,rfl⟩,hi2,hyv,by omega,by omega⟩
          | (refine ⟨_, [3, 4, 5], rfl, rfl, ⟨Y.vals.set 0 x3, Y.rows, Y.piv⟩, i3, h3, ⟨?_, ?_⟩, hi3, ?_, ?_, ?_⟩
             · simp only [crkO,List.length_set];rfl
             · rw [← ints_set];rfl
             · simp only [List.length_set];exact hyv
             · show Y.rows.length≤15;omega
             show Y.piv.length≤5;omega)
          | (refine ⟨_, [3, 4, 5], rfl, rfl, ⟨Y.vals, Y.rows, Y.piv ++ [(x3, x4)]⟩, i4, h4, ⟨?_, ?_⟩, hi4, hyv, ?_, ?_⟩
             · simp only [crkO,← pairs_lenApp];rfl
             · rw [← pairs_app];rfl
             · show Y.rows.length≤15;omega
             simp only [List.length_append,List.length_singleton];omega)
          | (refine ⟨_, [3, 4, 5], rfl, rfl, ⟨Y.vals, Y.rows ++ [0], Y.piv⟩, i2, h2, ⟨?_, ?_⟩, hi2, hyv, ?_, ?_⟩
             · simp only [crkO,← ints_lenApp];rfl
             · rw [← ints_app];rfl
             · simp only [List.length_append,List.length_singleton];omega
             show Y.piv.length≤5;omega)
      refine u_op 3 rfl rfl (Heavy.op (H_bslice rfl rfl (by decide) sl_22 ty_3 za_3 ⟨rfl, by decide⟩ (by decide) rfl rfl rfl rfl ?_))
      refine u_any 1 [4] ⟨?_,?_,trivial⟩
      · refine u_op 1 rfl rfl (EOp_light rfl (by decide) (L_load rfl (xb3 ty_22)) ?_)
        refine u_any 4 [] ⟨?_,trivial⟩
        refine u_op 4 rfl rfl (xe2 rfl rfl rfl ca_168 (c_spec_l1PickInt l i2 h2 _ 6 [0,999,1000,-5] 4 hb hi2 (by decide) rfl rfl) ?_)
        rintro r S ⟨x3,i3,h3,⟨rfl,rfl⟩,hi3,hx3⟩
        refine up_ 5 rfl (L_index rfl rfl (xii sl_22 ty_3)) ?_
        refine u_any 6 [] ⟨?_,trivial⟩
        refine u_op 6 rfl rfl (EOp_store rfl rfl rfl (xb1 ty_3) ?_)
        refine u_done ?_
        refine E_seq ?_
        refine E_region' (L:=[0,1]) rfl ?_
        refine l_ rfl (L_load rfl (xb0 ty_49)) ?_
        refine EOps_go rfl rfl (EOp_store rfl rfl rfl (xb1 ty_49) ?_)
        refine EOps_nil ?_
        refine E_ret ?_
        first
          | exact⟨_,[3,4,5],rfl,rfl,Y,i2,h2,⟨rfl,rfl⟩,hi2,hyv,by omega,by omega⟩
          | (refine ⟨_, [3, 4, 5], rfl, rfl, ⟨Y.vals.set 0 x3, Y.rows, Y.piv⟩, i3, h3, ⟨?_, ?_⟩, hi3, ?_, ?_, ?_⟩
             · simp only [crkO,List.length_set];rfl
             · rw [← ints_set];rfl
             · simp only [List.length_set];exact hyv
             · show Y.rows.length≤15;omega
             show Y.piv.length≤5;omega)
          | (refine ⟨_, [3, 4, 5], rfl, rfl, ⟨Y.vals, Y.rows, Y.piv ++ [(x3, x4)]⟩, i4, h4, ⟨?_, ?_⟩, hi4, hyv, ?_, ?_⟩
             · simp only [crkO,← pairs_lenApp];rfl
             · rw [← pairs_app];rfl
             · show Y.rows.length≤15;omega
             simp only [List.length_append,List.length_singleton];omega)
          | (refine ⟨_, [3, 4, 5], rfl, rfl, ⟨Y.vals, Y.rows ++ [0], Y.piv⟩, i2, h2, ⟨?_, ?_⟩, hi2, hyv, ?_, ?_⟩
             · simp only [crkO,← ints_lenApp];rfl
             · rw [← ints_app];rfl
             · simp only [List.length_append,List.length_singleton];omega
             show Y.piv.length≤5;omega)
      refine u_op 4 rfl rfl (xe2 rfl rfl rfl ca_168 (c_spec_l1PickInt l i2 h2 _ 6 [0, 999, 1000, -5] 4 hb hi2 (by decide) rfl rfl) ?_)
      rintro r S ⟨x3,i3,h3,⟨rfl,rfl⟩,hi3,hx3⟩
      refine u_any 1 [] ⟨?_,trivial⟩
      refine u_op 1 rfl rfl (EOp_light rfl (by decide) (L_load rfl (xb0 ty_22)) ?_)
      refine up_ 5 rfl (L_index rfl rfl (xii sl_22 ty_3)) ?_
      refine u_any 6 [] ⟨?_,trivial⟩
      refine u_op 6 rfl rfl (EOp_store rfl rfl rfl (xb1 ty_3) ?_)
      refine u_done ?_
      refine E_seq ?_
      refine E_region' (L:=[0,1]) rfl ?_
      refine l_ rfl (L_load rfl (xb0 ty_49)) ?_
      refine EOps_go rfl rfl (EOp_store rfl rfl rfl (xb1 ty_49) ?_)
      refine EOps_nil ?_
      refine E_ret ?_
      first
        | exact⟨_,[3,4,5],rfl,rfl,Y,i2,h2,⟨rfl,rfl⟩,hi2,hyv,by omega,by omega⟩
        | (refine ⟨_, [3, 4, 5], rfl, rfl, ⟨Y.vals.set 0 x3, Y.rows, Y.piv⟩, i3, h3, ⟨?_, ?_⟩, hi3, ?_, ?_, ?_⟩
           · simp only [crkO,List.length_set];rfl
           · rw [← ints_set];rfl
           · simp only [List.length_set];exact hyv
           · show Y.rows.length≤15;omega
           show Y.piv.length≤5;omega)
        | (refine ⟨_, [3, 4, 5], rfl, rfl, ⟨Y.vals, Y.rows, Y.piv ++ [(x3, x4)]⟩, i4, h4, ⟨?_, ?_⟩, hi4, hyv, ?_, ?_⟩
           · simp only [crkO,← pairs_lenApp];rfl
           · rw [← pairs_app];rfl
           · show Y.rows.length≤15;omega
           simp only [List.length_append,List.length_singleton];omega)
        | (refine ⟨_, [3, 4, 5], rfl, rfl, ⟨Y.vals, Y.rows ++ [0], Y.piv⟩, i2, h2, ⟨?_, ?_⟩, hi2, hyv, ?_, ?_⟩
           · simp only [crkO,← ints_lenApp];rfl
           · rw [← ints_app];rfl
           · simp only [List.length_append,List.length_singleton];omega
           show Y.piv.length≤5;omega)
    refine E_skip ?_
    refine E_seq ?_
    refine E_region' (L:=[0,1]) rfl ?_
    refine l_ rfl (L_load rfl (xb0 ty_49)) ?_
    refine EOps_go rfl rfl (EOp_store rfl rfl rfl (xb1 ty_49) ?_)
    refine EOps_nil ?_
    refine E_ret ?_
    first
      | exact⟨_,[3,4,5],rfl,rfl,Y,i2,h2,⟨rfl,rfl⟩,hi2,hyv,by omega,by omega⟩
      | (refine ⟨_, [3, 4, 5], rfl, rfl, ⟨Y.vals.set 0 x3, Y.rows, Y.piv⟩, i3, h3, ⟨?_, ?_⟩, hi3, ?_, ?_, ?_⟩
         · simp only [crkO,List.length_set];rfl
         · rw [← ints_set];rfl
         · simp only [List.length_set];exact hyv
         · show Y.rows.length≤15;omega
         show Y.piv.length≤5;omega)
      | (refine ⟨_, [3, 4, 5], rfl, rfl, ⟨Y.vals, Y.rows, Y.piv ++ [(x3, x4)]⟩, i4, h4, ⟨?_, ?_⟩, hi4, hyv, ?_, ?_⟩
         · simp only [crkO,← pairs_lenApp];rfl
         · rw [← pairs_app];rfl
         · show Y.rows.length≤15;omega
         simp only [List.length_append,List.length_singleton];omega)
      | (refine ⟨_, [3, 4, 5], rfl, rfl, ⟨Y.vals, Y.rows ++ [0], Y.piv⟩, i2, h2, ⟨?_, ?_⟩, hi2, hyv, ?_, ?_⟩
         · simp only [crkO,← ints_lenApp];rfl
         · rw [← ints_app];rfl
         · simp only [List.length_append,List.length_singleton];omega
         show Y.piv.length≤5;omega)
  refine E_seq ?_
  refine E_region' (L:=[0,1]) rfl ?_
  refine p_ rfl (L_bin rfl rfl rfl rfl) ?_
  refine xas ?_
  refine EOps_nil ?_
  refine E_cond rfl (fun hc20=>?_) (fun hc20=>?_)
  · refine e_tidy_A121_6 [0, 2, 3, 7, 8, 20] ?_
    refine E_drawU mixed ?_
    refine up_ 0 rfl (l_field rfl fo_49_2) ?_
    refine up_ 2 rfl (L_move rfl) ?_
    refine up_ 4 rfl (L_move rfl) ?_
    refine u_any 1 [3] ⟨?_,?_,trivial⟩
    · refine u_op 1 rfl rfl (EOp_light rfl (by decide) (L_load rfl (xb3 ty_47)) ?_)
      refine u_any 3 [] ⟨?_,trivial⟩
      refine u_op 3 rfl rfl (xe2 rfl rfl rfl ca_183 (c_spec_l1Below l i2 h2 9 _ hb hi2 (by decide)) ?_)
      rintro r S ⟨x3,i3,h3,⟨rfl,rfl⟩,hi3,hx3⟩
      refine u_any 5 [] ⟨?_,trivial⟩
      refine u_op 5 rfl rfl (xe2 rfl rfl rfl ca_183 (c_spec_l1Below l i3 h3 9 _ hb hi3 (by decide)) ?_)
      rintro r S ⟨x4,i4,h4,⟨rfl,rfl⟩,hi4,hx4⟩
      refine up_ 6 rfl (L_build rfl bd_151 rfl rfl) ?_
      refine u_any 7 [] ⟨?_,trivial⟩
      refine u_op 7 rfl rfl (Heavy.op (H_bslice_ro rfl rfl (by decide) sl_47 ty_151 za_151 ⟨rfl,by decide⟩ (by decide) rfl rfl rfl rfl ?_))
      refine u_any 8 [] ⟨?_,trivial⟩
      refine u_op 8 rfl rfl (EOp_append (news:=pairs [(x3,x4)]) rfl rfl (by decide) sl_47 ty_151 by_151 za_151 ⟨rfl,by decide⟩ rfl (by first|rfl|assumption) xb6 xb7 xb8 xb9 ?_)
      refine up_ 9 rfl (l_field rfl fo_49_2) ?_
      refine u_any 10 [] ⟨?_,trivial⟩
      refine u_op 10 rfl rfl (EOp_store rfl rfl rfl (xb1 ty_47) ?_)
      refine u_done ?_
      refine E_seq ?_
      refine E_region' (L:=[0,1]) rfl ?_
      refine l_ rfl (L_load rfl (xb0 ty_49)) ?_
      refine EOps_go rfl rfl (EOp_store rfl rfl rfl (xb1 ty_49) ?_)
      refine EOps_nil ?_
      refine E_ret ?_
      first
        | exact⟨_,[3,4,5],rfl,rfl,Y,i2,h2,⟨rfl,rfl⟩,hi2,hyv,by omega,by omega⟩
        | (refine ⟨_, [3, 4, 5], rfl, rfl, ⟨Y.vals.set 0 x3, Y.rows, Y.piv⟩, i3, h3, ⟨?_, ?_⟩, hi3, ?_, ?_, ?_⟩
           · simp only [crkO,List.length_set];rfl
           · rw [← ints_set];rfl
           · simp only [List.length_set];exact hyv
           · show Y.rows.length≤15;omega
           show Y.piv.length≤5;omega)
        | (refine ⟨_, [3, 4, 5], rfl, rfl, ⟨Y.vals, Y.rows, Y.piv ++ [(x3, x4)]⟩, i4, h4, ⟨?_, ?_⟩, hi4, hyv, ?_, ?_⟩
           · simp only [crkO,← pairs_lenApp];rfl
           · rw [← pairs_app];rfl
           · show Y.rows.length≤15;omega
           simp only [List.length_append,List.length_singleton];omega)
        | (refine ⟨_, [3, 4, 5], rfl, rfl, ⟨Y.vals, Y.rows ++ [0], Y.piv⟩, i2, h2, ⟨?_, ?_⟩, hi2, hyv, ?_, ?_⟩
           · simp only [crkO,← ints_lenApp];rfl
           · rw [← ints_app];rfl
           · simp only [List.length_append,List.length_singleton];omega
           show Y.piv.length≤5;omega)
    refine u_op 3 rfl rfl (xe2 rfl rfl rfl ca_183 (c_spec_l1Below l i2 h2 9 _ hb hi2 (by decide)) ?_)
    rintro r S ⟨x3,i3,h3,⟨rfl,rfl⟩,hi3,hx3⟩
    refine u_any 1 [5] ⟨?_,?_,trivial⟩
    · refine u_op 1 rfl rfl (EOp_light rfl (by decide) (L_load rfl (xb3 ty_47)) ?_)
      refine u_any 5 [] ⟨?_,trivial⟩
      refine u_op 5 rfl rfl (xe2 rfl rfl rfl ca_183 (c_spec_l1Below l i3 h3 9 _ hb hi3 (by decide)) ?_)
      rintro r S ⟨x4,i4,h4,⟨rfl,rfl⟩,hi4,hx4⟩
      refine up_ 6 rfl (L_build rfl bd_151 rfl rfl) ?_
      refine u_any 7 [] ⟨?_,trivial⟩
      refine u_op 7 rfl rfl (Heavy.op (H_bslice_ro rfl rfl (by decide) sl_47 ty_151 za_151 ⟨rfl,by decide⟩ (by decide) rfl rfl rfl rfl ?_))
      refine u_any 8 [] ⟨?_,trivial⟩
      refine u_op 8 rfl rfl (EOp_append (news:=pairs [(x3,x4)]) rfl rfl (by decide) sl_47 ty_151 by_151 za_151 ⟨rfl,by decide⟩ rfl (by first|rfl|assumption) xb6 xb7 xb8 xb9 ?_)
      refine up_ 9 rfl (l_field rfl fo_49_2) ?_
      refine u_any 10 [] ⟨?_,trivial⟩
      refine u_op 10 rfl rfl (EOp_store rfl rfl rfl (xb1 ty_47) ?_)
      refine u_done ?_
      refine E_seq ?_
      refine E_region' (L:=[0,1]) rfl ?_
      refine l_ rfl (L_load rfl (xb0 ty_49)) ?_
      refine EOps_go rfl rfl (EOp_store rfl rfl rfl (xb1 ty_49) ?_)
      refine EOps_nil ?_
      refine E_ret ?_
      first
        | exact⟨_,[3,4,5],rfl,rfl,Y,i2,h2,⟨rfl,rfl⟩,hi2,hyv,by omega,by omega⟩
        | (refine ⟨_, [3, 4, 5], rfl, rfl, ⟨Y.vals.set 0 x3, Y.rows, Y.piv⟩, i3, h3, ⟨?_, ?_⟩, hi3, ?_, ?_, ?_⟩
           · simp only [crkO,List.length_set];rfl
           · rw [← ints_set];rfl
           · simp only [List.length_set];exact hyv
           · show Y.rows.length≤15;omega
           show Y.piv.length≤5;omega)
        | (refine ⟨_, [3, 4, 5], rfl, rfl, ⟨Y.vals, Y.rows, Y.piv ++ [(x3, x4)]⟩, i4, h4, ⟨?_, ?_⟩, hi4, hyv, ?_, ?_⟩
           · simp only [crkO,← pairs_lenApp];rfl
           · rw [← pairs_app];rfl
           · show Y.rows.length≤15;omega
           simp only [List.length_append,List.length_singleton];omega)
        | (refine ⟨_, [3, 4, 5], rfl, rfl, ⟨Y.vals, Y.rows ++ [0], Y.piv⟩, i2, h2, ⟨?_, ?_⟩, hi2, hyv, ?_, ?_⟩
           · simp only [crkO,← ints_lenApp];rfl
           · rw [← ints_app];rfl
           · simp only [List.length_append,List.length_singleton];omega
           show Y.piv.length≤5;omega)
    refine u_op 5 rfl rfl (xe2 rfl rfl rfl ca_183 (c_spec_l1Below l i3 h3 9 _ hb hi3 (by decide)) ?_)
    rintro r S ⟨x4,i4,h4,⟨rfl,rfl⟩,hi4,hx4⟩
    refine up_ 6 rfl (L_build rfl bd_151 rfl rfl) ?_
    refine u_any 1 [7] ⟨?_,?_,trivial⟩
    · refine u_op 1 rfl rfl (EOp_light rfl (by decide) (L_load rfl (xb3 ty_47)) ?_)
      refine u_any 7 [] ⟨?_,trivial⟩
      refine u_op 7 rfl rfl (Heavy.op (H_bslice_ro rfl rfl (by decide) sl_47 ty_151 za_151 ⟨rfl,by decide⟩ (by decide) rfl rfl rfl rfl ?_))
      refine u_any 8 [] ⟨?_,trivial⟩
      refine u_op 8 rfl rfl (EOp_append (news:=pairs [(x3,x4)]) rfl rfl (by decide) sl_47 ty_151 by_151 za_151 ⟨rfl,by decide⟩ rfl (by first|rfl|assumption) xb6 xb7 xb8 xb9 ?_)
      refine up_ 9 rfl (l_field rfl fo_49_2) ?_
      refine u_any 10 [] ⟨?_,trivial⟩
      refine u_op 10 rfl rfl (EOp_store rfl rfl rfl (xb1 ty_47) ?_)
      refine u_done ?_
      refine E_seq ?_
      refine E_region' (L:=[0,1]) rfl ?_
      refine l_ rfl (L_load rfl (xb0 ty_49)) ?_
      refine EOps_go rfl rfl (EOp_store rfl rfl rfl (xb1 ty_49) ?_)
      refine EOps_nil ?_
      refine E_ret ?_
      first
        | exact⟨_,[3,4,5],rfl,rfl,Y,i2,h2,⟨rfl,rfl⟩,hi2,hyv,by omega,by omega⟩
        | (refine ⟨_, [3, 4, 5], rfl, rfl, ⟨Y.vals.set 0 x3, Y.rows, Y.piv⟩, i3, h3, ⟨?_, ?_⟩, hi3, ?_, ?_, ?_⟩
           · simp only [crkO,List.length_set];rfl
           · rw [← ints_set];rfl
           · simp only [List.length_set];exact hyv
           · show Y.rows.length≤15;omega
           show Y.piv.length≤5;omega)
        | (refine ⟨_, [3, 4, 5], rfl, rfl, ⟨Y.vals, Y.rows, Y.piv ++ [(x3, x4)]⟩, i4, h4, ⟨?_, ?_⟩, hi4, hyv, ?_, ?_⟩
           · simp only [crkO,← pairs_lenApp];rfl
           · rw [← pairs_app];rfl
           · show Y.rows.length≤15;omega
           simp only [List.length_append,List.length_singleton];omega)
        | (refine ⟨_, [3, 4, 5], rfl, rfl, ⟨Y.vals, Y.rows ++ [0], Y.piv⟩, i2, h2, ⟨?_, ?_⟩, hi2, hyv, ?_, ?_⟩
           · simp only [crkO,← ints_lenApp];rfl
           · rw [← ints_app];rfl
           · simp only [List.length_append,List.length_singleton];omega
           show Y.piv.length≤5;omega)
    refine u_op 7 rfl rfl (Heavy.op (H_bslice_ro rfl rfl (by decide) sl_47 ty_151 za_151 ⟨rfl, by decide⟩ (by decide) rfl rfl rfl rfl ?_))
    refine u_any 1 [] ⟨?_,trivial⟩
    refine u_op 1 rfl rfl (EOp_light rfl (by decide) (L_load rfl (xb0 ty_47)) ?_)
    refine u_any 8 [] ⟨?_,trivial⟩
    refine u_op 8 rfl rfl (EOp_append (news:=pairs [(x3,x4)]) rfl rfl (by decide) sl_47 ty_151 by_151 za_151 ⟨rfl,by decide⟩ rfl (by first|rfl|assumption) xb6 xb7 xb8 xb9 ?_)
    refine up_ 9 rfl (l_field rfl fo_49_2) ?_
    refine u_any 10 [] ⟨?_,trivial⟩
    refine u_op 10 rfl rfl (EOp_store rfl rfl rfl (xb1 ty_47) ?_)
    refine u_done ?_
    refine E_seq ?_
    refine E_region' (L:=[0,1]) rfl ?_
    refine l_ rfl (L_load rfl (xb0 ty_49)) ?_
    refine EOps_go rfl rfl (EOp_store rfl rfl rfl (xb1 ty_49) ?_)
    refine EOps_nil ?_
    refine E_ret ?_
    first
      | exact⟨_,[3,4,5],rfl,rfl,Y,i2,h2,⟨rfl,rfl⟩,hi2,hyv,by omega,by omega⟩
      | (refine ⟨_, [3, 4, 5], rfl, rfl, ⟨Y.vals.set 0 x3, Y.rows, Y.piv⟩, i3, h3, ⟨?_, ?_⟩, hi3, ?_, ?_, ?_⟩
         · simp only [crkO,List.length_set];rfl
         · rw [← ints_set];rfl
         · simp only [List.length_set];exact hyv
         · show Y.rows.length≤15;omega
         show Y.piv.length≤5;omega)
      | (refine ⟨_, [3, 4, 5], rfl, rfl, ⟨Y.vals, Y.rows, Y.piv ++ [(x3, x4)]⟩, i4, h4, ⟨?_, ?_⟩, hi4, hyv, ?_, ?_⟩
         · simp only [crkO,← pairs_lenApp];rfl
         · rw [← pairs_app];rfl
         · show Y.rows.length≤15;omega
         simp only [List.length_append,List.length_singleton];omega)
      | (refine ⟨_, [3, 4, 5], rfl, rfl, ⟨Y.vals, Y.rows ++ [0], Y.piv⟩, i2, h2, ⟨?_, ?_⟩, hi2, hyv, ?_, ?_⟩
         · simp only [crkO,← ints_lenApp];rfl
         · rw [← ints_app];rfl
         · simp only [List.length_append,List.length_singleton];omega
         show Y.piv.length≤5;omega)
  refine E_seq ?_
  refine E_region' (L:=[0,1]) rfl ?_
  refine p_ rfl (L_bin rfl rfl rfl rfl) ?_
  refine xas ?_
  refine EOps_nil ?_
  refine E_cond rfl (fun hc32=>?_) (fun hc32=>?_)
  · refine E_region' (L := [0, 1, 2, 3, 4, 5]) rfl ?_
    refine p_ rfl (l_field rfl fo_49_1) ?_
    refine l_ rfl (L_load rfl (xb0 ty_22)) ?_
    refine EOps_go rfl rfl (Heavy.op (H_bslice_ro rfl rfl (by decide) sl_22 ty_3 za_3 ⟨rfl,by decide⟩ (by decide) rfl rfl rfl rfl ?_))
    refine EOps_go rfl rfl (EOp_append (news:=ints [0]) rfl rfl (by decide) sl_22 ty_3 by_3 za_3 ⟨rfl,by decide⟩ rfl (by first|rfl|assumption) xb6 xb7 xb8 xb9 ?_)
    refine p_ rfl (l_field rfl fo_49_1) ?_
    refine EOps_go rfl rfl (EOp_store rfl rfl rfl (xb1 ty_22) ?_)
    refine EOps_nil ?_
    refine E_seq ?_
    refine E_region' (L:=[0,1]) rfl ?_
    refine l_ rfl (L_load rfl (xb0 ty_49)) ?_
    refine EOps_go rfl rfl (EOp_store rfl rfl rfl (xb1 ty_49) ?_)
    refine EOps_nil ?_
    refine E_ret ?_
    first
      | exact⟨_,[3,4,5],rfl,rfl,Y,i2,h2,⟨rfl,rfl⟩,hi2,hyv,by omega,by omega⟩
      | (refine ⟨_, [3, 4, 5], rfl, rfl, ⟨Y.vals.set 0 x3, Y.rows, Y.piv⟩, i3, h3, ⟨?_, ?_⟩, hi3, ?_, ?_, ?_⟩
         · simp only [crkO,List.length_set];rfl
         · rw [← ints_set];rfl
         · simp only [List.length_set];exact hyv
         · show Y.rows.length≤15;omega
         show Y.piv.length≤5;omega)
      | (refine ⟨_, [3, 4, 5], rfl, rfl, ⟨Y.vals, Y.rows, Y.piv ++ [(x3, x4)]⟩, i4, h4, ⟨?_, ?_⟩, hi4, hyv, ?_, ?_⟩
         · simp only [crkO,← pairs_lenApp];rfl
         · rw [← pairs_app];rfl
         · show Y.rows.length≤15;omega
         simp only [List.length_append,List.length_singleton];omega)
      | (refine ⟨_, [3, 4, 5], rfl, rfl, ⟨Y.vals, Y.rows ++ [0], Y.piv⟩, i2, h2, ⟨?_, ?_⟩, hi2, hyv, ?_, ?_⟩
         · simp only [crkO,← ints_lenApp];rfl
         · rw [← ints_app];rfl
         · simp only [List.length_append,List.length_singleton];omega
         show Y.piv.length≤5;omega)
  refine E_skip ?_
  refine E_seq ?_
  refine E_region' (L:=[0,1]) rfl ?_
  refine l_ rfl (L_load rfl (xb0 ty_49)) ?_
  refine EOps_go rfl rfl (EOp_store rfl rfl rfl (xb1 ty_49) ?_)
  refine EOps_nil ?_
  refine E_ret ?_
  first
    | exact⟨_,[3,4,5],rfl,rfl,Y,i2,h2,⟨rfl,rfl⟩,hi2,hyv,by omega,by omega⟩
    | (refine ⟨_, [3, 4, 5], rfl, rfl, ⟨Y.vals.set 0 x3, Y.rows, Y.piv⟩, i3, h3, ⟨?_, ?_⟩, hi3, ?_, ?_, ?_⟩
       · simp only [crkO,List.length_set];rfl
       · rw [← ints_set];rfl
       · simp only [List.length_set];exact hyv
       · show Y.rows.length≤15;omega
       show Y.piv.length≤5;omega)
    | (refine ⟨_, [3, 4, 5], rfl, rfl, ⟨Y.vals, Y.rows, Y.piv ++ [(x3, x4)]⟩, i4, h4, ⟨?_, ?_⟩, hi4, hyv, ?_, ?_⟩
       · simp only [crkO,← pairs_lenApp];rfl
       · rw [← pairs_app];rfl
       · show Y.rows.length≤15;omega
       simp only [List.length_append,List.length_singleton];omega)
    | (refine ⟨_, [3, 4, 5], rfl, rfl, ⟨Y.vals, Y.rows ++ [0], Y.piv⟩, i2, h2, ⟨?_, ?_⟩, hi2, hyv, ?_, ?_⟩
       · simp only [crkO,← ints_lenApp];rfl
       · rw [← ints_app];rfl
       · simp only [List.length_append,List.length_singleton];omega
       show Y.piv.length≤5;omega)

set_option maxRecDepth 20000 in
set_option maxHeartbeats 4000000 in
theorem c_spec_l4Value_aw2 (l : List Int) (i h : Int) (Y : Crk) (hb : byL l) (hi : curOk l i) (hX : Y.vals.length ≤ 100000) : EFn Tryz.prog 119 [.c (.bp 0 0), .agg (crkO 2 Y)] [.box (curC l i h), .box [.sc (.slice none 0 0), .sc (.slice none 0 0), .sc (.slice none 0 0)], .row 3 1 (ints Y.vals), .row 3 1 (ints Y.rows), .row 151 2 (pairs Y.piv), .box (crkO 2 Y)] (fun r S => ∃ (v i' h' : Int), (r = .c (.sc (.int .i64 v)) ∧ S = [.box (curC l i' h'), .box [.sc (.slice none 0 0), .sc (.slice none 0 0), .sc (.slice none 0 0)], .row 3 1 (ints Y.vals), .row 3 1 (ints Y.rows), .row 151 2 (pairs Y.piv), .box (crkO 2 Y)]) ∧ curOk l i') := by
 refine E_fn Tryz.func119 rfl (Nat.le_of_ble_eq_true rfl) ?_
 refine E_seq ?_
 refine E_region' (L:=[0,1]) rfl ?_
 refine x_box rfl rfl rfl rfl rfl ?_
 refine xas ?_
 refine EOps_nil ?_
 refine E_seq ?_
 refine E_seq ?_
 refine e_tidy_A121_2 [0,1,3,4] ?_
 refine E_region' (L:=[0,1,2,3,4,5,6,7,8]) rfl ?_
 refine p_ rfl (l_field rfl fo_49_0) ?_
 refine l_ rfl (L_load rfl (xb0 ty_22)) ?_
 refine p_ rfl (l_len rfl sl_22) ?_
 refine p_ rfl (L_bin rfl rfl rfl rfl) ?_
 refine xmv ?_
 refine EOps_split 9 (b:=_) rfl (fun hg9=>?_) (fun hg9=>?_)
 ·have hn0 : 0 < Y.vals.length := by simp at hg9; omega
  refine xmv ?_
  refine EOps_go rfl rfl (xe2 rfl rfl rfl ca_185 (c_spec_l1Once l i h 4 _ hb hi (by decide)) ?_)
  rintro r S ⟨b1,i1,h1,⟨rfl,rfl⟩,hi1⟩
  refine p_ rfl (L_not rfl rfl) ?_
  refine p_ rfl (L_pick rfl rfl) ?_
  refine EOps_nil ?_
  refine E_cond rfl (fun hc13=>?_) (fun hc13=>?_)
  ·refine E_seq ?_
   refine e_tidy_A121_2 [0,1,3,4,13] ?_
   refine E_drawU mixed ?_
   refine up_ 0 rfl (l_field rfl fo_49_0) ?_
   refine up_ 2 rfl (L_move rfl) ?_
   refine up_ 3 rfl (l_field rfl fo_49_0) ?_
   refine up_ 9 rfl (L_move rfl) ?_
   refine u_any 1 [4] ⟨?_,?_,trivial⟩
   ·refine u_op 1 rfl rfl (EOp_light rfl (by decide) (L_load rfl (xb3 ty_22)) ?_)
    refine u_any 4 [] ⟨?_,trivial⟩
    refine u_op 4 rfl rfl (EOp_light rfl (by decide) (L_load rfl (xb0 ty_22)) ?_)
    refine up_ 5 rfl (l_len rfl sl_22) ?_
    refine u_any 6 [] ⟨?_,trivial⟩
    refine u_op 6 rfl rfl (xe2 rfl rfl rfl ca_183 (c_spec_l1Below l i1 h1 (Y.vals.length:Int) _ hb hi1 (by omega)) ?_)
    rintro r S ⟨x2,i2,h2,⟨rfl,rfl⟩,hi2,hx2⟩
    obtain⟨kk,rfl⟩:∃ kk:Nat,x2=(kk:Int):=⟨x2.toNat,by omega⟩
    have hk1:kk<Y.vals.length:=by have:=hx2.2.1 (by omega);omega
    obtain⟨y,hy⟩:=at_lt (l:=Y.vals) hk1
    refine up_ 7 rfl (L_index rfl rfl (xii sl_22 ty_3)) ?_
    refine u_any 8 [10] ⟨?_,?_,trivial⟩
    ·refine u_op 8 rfl rfl (EOp_light rfl (by decide) (L_load rfl (xb3 ty_3)) ?_)
     refine u_any 10 [] ⟨?_,trivial⟩
     refine u_op 10 rfl rfl (xe2 rfl rfl rfl ca_183 (c_spec_l1Below l i2 h2 3 _ hb hi2 (by decide)) ?_)
     rintro r S ⟨x3,i3,h3,⟨rfl,rfl⟩,hi3,hx3⟩
     refine up_ 11 rfl xb2 ?_
     refine up_ 12 rfl xb5 ?_
     refine up_ 13 rfl (L_assign rfl) ?_
     refine u_done ?_
     refine E_ret ?_
     first
      | exact⟨_,[],rfl,rfl,_,i3,h3,⟨rfl,rfl⟩,hi3⟩
      | exact⟨_,[],rfl,rfl,_,i4,h4,⟨rfl,rfl⟩,hi4⟩
    refine u_op 10 rfl rfl (xe2 rfl rfl rfl ca_183 (c_spec_l1Below l i2 h2 3 _ hb hi2 (by decide)) ?_)
    rintro r S ⟨x3,i3,h3,⟨rfl,rfl⟩,hi3,hx3⟩
    refine u_any 8 [] ⟨?_,trivial⟩
    refine u_op 8 rfl rfl (EOp_light rfl (by decide) (L_load rfl (xb0 ty_3)) ?_)
    refine up_ 11 rfl xb2 ?_
    refine up_ 12 rfl xb5 ?_
    refine up_ 13 rfl (L_assign rfl) ?_
    refine u_done ?_
    refine E_ret ?_
    first
     | exact⟨_,[],rfl,rfl,_,i3,h3,⟨rfl,rfl⟩,hi3⟩
     | exact⟨_,[],rfl,rfl,_,i4,h4,⟨rfl,rfl⟩,hi4⟩
   refine u_op 4 rfl rfl (EOp_light rfl (by decide) (L_load rfl (xb3 ty_22)) ?_)
   refine up_ 5 rfl (l_len rfl sl_22) ?_
   refine u_any 1 [6] ⟨?_,?_,trivial⟩
   ·refine u_op 1 rfl rfl (EOp_light rfl (by decide) (L_load rfl (xb3 ty_22)) ?_)
    refine u_any 6 [] ⟨?_,trivial⟩
    refine u_op 6 rfl rfl (xe2 rfl rfl rfl ca_183 (c_spec_l1Below l i1 h1 (Y.vals.length:Int) _ hb hi1 (by omega)) ?_)
    rintro r S ⟨x2,i2,h2,⟨rfl,rfl⟩,hi2,hx2⟩
    obtain⟨kk,rfl⟩:∃ kk:Nat,x2=(kk:Int):=⟨x2.toNat,by omega⟩
    have hk1:kk<Y.vals.length:=by have:=hx2.2.1 (by omega);omega
    obtain⟨y,hy⟩:=at_lt (l:=Y.vals) hk1
    refine up_ 7 rfl (L_index rfl rfl (xii sl_22 ty_3)) ?_
    refine u_any 8 [10] ⟨?_,?_,trivial⟩
    ·refine u_op 8 rfl rfl (EOp_light rfl (by decide) (L_load rfl (xb3 ty_3)) ?_)
     refine u_any 10 [] ⟨?_,trivial⟩
     refine u_op 10 rfl rfl (xe2 rfl rfl rfl ca_183 (c_spec_l1Below l i2 h2 3 _ hb hi2 (by decide)) ?_)
     rintro r S ⟨x3,i3,h3,⟨rfl,rfl⟩,hi3,hx3⟩
     refine up_ 11 rfl xb2 ?_
     refine up_ 12 rfl xb5 ?_
     refine up_ 13 rfl (L_assign rfl) ?_
     refine u_done ?_
     refine E_ret ?_
     first
      | exact⟨_,[],rfl,rfl,_,i3,h3,⟨rfl,rfl⟩,hi3⟩
      | exact⟨_,[],rfl,rfl,_,i4,h4,⟨rfl,rfl⟩,hi4⟩
    refine u_op 10 rfl rfl (xe2 rfl rfl rfl ca_183 (c_spec_l1Below l i2 h2 3 _ hb hi2 (by decide)) ?_)
    rintro r S ⟨x3,i3,h3,⟨rfl,rfl⟩,hi3,hx3⟩
    refine u_any 8 [] ⟨?_,trivial⟩
    refine u_op 8 rfl rfl (EOp_light rfl (by decide) (L_load rfl (xb0 ty_3)) ?_)
    refine up_ 11 rfl xb2 ?_
    refine up_ 12 rfl xb5 ?_
    refine up_ 13 rfl (L_assign rfl) ?_
    refine u_done ?_
    refine E_ret ?_
    first
     | exact⟨_,[],rfl,rfl,_,i3,h3,⟨rfl,rfl⟩,hi3⟩
     | exact⟨_,[],rfl,rfl,_,i4,h4,⟨rfl,rfl⟩,hi4⟩
   refine u_op 6 rfl rfl (xe2 rfl rfl rfl ca_183 (c_spec_l1Below l i1 h1 (Y.vals.length : Int) _ hb hi1 (by omega)) ?_)
   rintro r S ⟨x2,i2,h2,⟨rfl,rfl⟩,hi2,hx2⟩
   obtain⟨kk,rfl⟩:∃ kk:Nat,x2=(kk:Int):=⟨x2.toNat,by omega⟩
   have hk1:kk<Y.vals.length:=by have:=hx2.2.1 (by omega);omega
   obtain⟨y,hy⟩:=at_lt (l:=Y.vals) hk1
   refine u_any 1 [10] ⟨?_,?_,trivial⟩
   ·refine u_op 1 rfl rfl (EOp_light rfl (by decide) (L_load rfl (xb3 ty_22)) ?_)
    refine up_ 7 rfl (L_index rfl rfl (xii sl_22 ty_3)) ?_
    refine u_any 8 [10] ⟨?_,?_,trivial⟩
    ·refine u_op 8 rfl rfl (EOp_light rfl (by decide) (L_load rfl (xb3 ty_3)) ?_)
     refine u_any 10 [] ⟨?_,trivial⟩
     refine u_op 10 rfl rfl (xe2 rfl rfl rfl ca_183 (c_spec_l1Below l i2 h2 3 _ hb hi2 (by decide)) ?_)
     rintro r S ⟨x3,i3,h3,⟨rfl,rfl⟩,hi3,hx3⟩
     refine up_ 11 rfl xb2 ?_
     refine up_ 12 rfl xb5 ?_
     refine up_ 13 rfl (L_assign rfl) ?_
     refine u_done ?_
     refine E_ret ?_
     first
      | exact⟨_,[],rfl,rfl,_,i3,h3,⟨rfl,rfl⟩,hi3⟩
      | exact⟨_,[],rfl,rfl,_,i4,h4,⟨rfl,rfl⟩,hi4⟩
    refine u_op 10 rfl rfl (xe2 rfl rfl rfl ca_183 (c_spec_l1Below l i2 h2 3 _ hb hi2 (by decide)) ?_)
    rintro r S ⟨x3,i3,h3,⟨rfl,rfl⟩,hi3,hx3⟩
    refine u_any 8 [] ⟨?_,trivial⟩
    refine u_op 8 rfl rfl (EOp_light rfl (by decide) (L_load rfl (xb0 ty_3)) ?_)
    refine up_ 11 rfl xb2 ?_
    refine up_ 12 rfl xb5 ?_
    refine up_ 13 rfl (L_assign rfl) ?_
    refine u_done ?_
    refine E_ret ?_
    first
     | exact⟨_,[],rfl,rfl,_,i3,h3,⟨rfl,rfl⟩,hi3⟩
     | exact⟨_,[],rfl,rfl,_,i4,h4,⟨rfl,rfl⟩,hi4⟩
   refine u_op 10 rfl rfl (xe2 rfl rfl rfl ca_183 (c_spec_l1Below l i2 h2 3 _ hb hi2 (by decide)) ?_)
   rintro r S ⟨x3,i3,h3,⟨rfl,rfl⟩,hi3,hx3⟩
   refine u_any 1 [] ⟨?_,trivial⟩
   refine u_op 1 rfl rfl (EOp_light rfl (by decide) (L_load rfl (xb0 ty_22)) ?_)
   refine up_ 7 rfl (L_index rfl rfl (xii sl_22 ty_3)) ?_
   refine u_any 8 [] ⟨?_,trivial⟩
   refine u_op 8 rfl rfl (EOp_light rfl (by decide) (L_load rfl (xb0 ty_3)) ?_)
   refine up_ 11 rfl xb2 ?_
   refine up_ 12 rfl xb5 ?_
   refine up_ 13 rfl (L_assign rfl) ?_
   refine u_done ?_
   refine E_ret ?_
   first
    | exact⟨_,[],rfl,rfl,_,i3,h3,⟨rfl,rfl⟩,hi3⟩
    | exact⟨_,[],rfl,rfl,_,i4,h4,⟨rfl,rfl⟩,hi4⟩
  refine E_skip ?_
  refine E_seq ?_
  refine e_tidy_A121_2 [0,1,3,4,13] ?_
  refine E_region' (L:=[0,1,2,3]) rfl ?_
  refine xmv ?_
  refine EOps_go rfl rfl (Heavy.op (H_bslice rfl rfl (by decide) sl_22 ty_3 za_3 ⟨rfl,by decide⟩ (by decide) rfl rfl rfl rfl ?_))
  refine EOps_go rfl rfl (xe2 rfl rfl rfl ca_168 (c_spec_l1PickInt l _ _ _ 6 [0,3,-2,-1000,1000,50] 6 hb (by assumption) (by decide) rfl rfl) ?_)
  rintro r S ⟨x4,i4,h4,⟨rfl,rfl⟩,hi4,hx4⟩
  refine xas ?_
  refine EOps_nil ?_
  refine E_ret ?_
  first
   | exact⟨_,[],rfl,rfl,_,i3,h3,⟨rfl,rfl⟩,hi3⟩
   | exact⟨_,[],rfl,rfl,_,i4,h4,⟨rfl,rfl⟩,hi4⟩
 refine s_ rfl ?_
 refine s_ rfl ?_
 refine s_ rfl ?_
 refine p_ rfl (L_pick rfl rfl) ?_
 refine EOps_nil ?_
 refine E_cond rfl (fun hc13=>?_) (fun hc13=>?_)
 ·exact Bool.noConfusion (hc13:false=true)
 refine E_skip ?_
 refine E_seq ?_
 refine e_tidy_A121_2 [0,1,3,4,13] ?_
 refine E_region' (L:=[0,1,2,3]) rfl ?_
 refine xmv ?_
 refine EOps_go rfl rfl (Heavy.op (H_bslice rfl rfl (by decide) sl_22 ty_3 za_3 ⟨rfl,by decide⟩ (by decide) rfl rfl rfl rfl ?_))
 refine EOps_go rfl rfl (xe2 rfl rfl rfl ca_168 (c_spec_l1PickInt l _ _ _ 6 [0,3,-2,-1000,1000,50] 6 hb (by assumption) (by decide) rfl rfl) ?_)
 rintro r S ⟨x4,i4,h4,⟨rfl,rfl⟩,hi4,hx4⟩
 refine xas ?_
 refine EOps_nil ?_
 refine E_ret ?_
 first
  | exact⟨_,[],rfl,rfl,_,i3,h3,⟨rfl,rfl⟩,hi3⟩
  | exact⟨_,[],rfl,rfl,_,i4,h4,⟨rfl,rfl⟩,hi4⟩

end Go.Proofs.YtlodlnbhjghjoaaGreat.E
