/- Walks through functions, by program out of the session's annotations. -/
import Derived.Test.YtcepgfcolmdnoaaA136
namespace Go.Proofs.Ytcepgfcolmdnoaa.E
open Go Go.RowKit Go.Proofs
set_option linter.unusedVariables false
set_option linter.unusedSimpArgs false

theorem e_tidy_A137_0 {P:Program} {N:Nat} {s:Slots} {R:List Res} {Q:Exit→Slots→List Res→Prop} {c:Code} (keep:List Nat) {base:Slots} {R':List Res} (h:ECode P N c base R' Q) (hb:keepOf s keep=base:=by simp only [E.keepOf,E.get,E.ev,E.cv,E.fill',E.fill,E.slotsOf,Res.sh,AC.sh,AC.sh.shs,AV.sh,E.splice,List.map_cons,List.map_nil,List.cons_append,List.nil_append,List.append_nil,List.length_cons,List.length_nil,List.take_zero,List.drop_zero,List.take_succ_cons,List.drop_succ_cons,List.drop_nil,List.take_nil,List.set_cons_zero,List.set_cons_succ,Nat.zero_add,Nat.add_zero,Nat.reduceAdd,Nat.reduceSub,reduceIte,Nat.reduceEqDiff,E.back,E.backR,E.ix,Res.un,AC.un,AC.un.uns,AV.un,E.un,Option.map_some,Option.map_none,Option.getD_some,List.getElem?_cons_zero,List.getElem?_cons_succ,List.getElem?_nil,curC];rfl) (hR:R=R':=by (try simp only [E.keepOf,E.get,E.ev,E.cv,E.fill',E.fill,E.slotsOf,Res.sh,AC.sh,AC.sh.shs,AV.sh,E.splice,List.map_cons,List.map_nil,List.cons_append,List.nil_append,List.append_nil,List.length_cons,List.length_nil,List.take_zero,List.drop_zero,List.take_succ_cons,List.drop_succ_cons,List.drop_nil,List.take_nil,List.set_cons_zero,List.set_cons_succ,Nat.zero_add,Nat.add_zero,Nat.reduceAdd,Nat.reduceSub,reduceIte,Nat.reduceEqDiff,E.back,E.backR,E.ix,Res.un,AC.un,AC.un.uns,AV.un,E.un,Option.map_some,Option.map_none,Option.getD_some,List.getElem?_cons_zero,List.getElem?_cons_succ,List.getElem?_nil,curC]);rfl):ECode P N c s R Q:=E_tidy keep hb hR h
theorem e_for_A137_1 {P : Program} {N : Nat} {s : Slots} {R : List Res} {Q : Exit → Slots → List Res → Prop} {α : Type} {c : Code} (keep : List Nat) (mods : α → Slots) (Rf : α → List Res) (I : α → Prop) (m : α → Nat) (x0 : α) {base : Slots} (h0 : I x0) (hR : R = Rf x0) (h1 : chk s (mods x0))
  (round:∀ x,I x→ECode P N c (mods x++base) (Rf x) (EThen (fun s' R'=>∃ y,m y<m x∧I y∧R'=Rf y∧chk s' (mods y)∧chk s' base) Q)) (hb:keepOf s keep=base:=by simp only [E.keepOf,E.get,E.ev,E.cv,E.fill',E.fill,E.slotsOf,Res.sh,AC.sh,AC.sh.shs,AV.sh,E.splice,List.map_cons,List.map_nil,List.cons_append,List.nil_append,List.append_nil,List.length_cons,List.length_nil,List.take_zero,List.drop_zero,List.take_succ_cons,List.drop_succ_cons,List.drop_nil,List.take_nil,List.set_cons_zero,List.set_cons_succ,Nat.zero_add,Nat.add_zero,Nat.reduceAdd,Nat.reduceSub,reduceIte,Nat.reduceEqDiff,E.back,E.backR,E.ix,Res.un,AC.un,AC.un.uns,AV.un,E.un,Option.map_some,Option.map_none,Option.getD_some,List.getElem?_cons_zero,List.getElem?_cons_succ,List.getElem?_nil,curC];rfl):ECode P N (.loop c) s R Q:=E_for keep mods Rf I m x0 hb h0 hR h1 round
theorem e_tidy_A137_2 {P:Program} {N:Nat} {s:Slots} {R:List Res} {Q:Exit→Slots→List Res→Prop} {c:Code} (keep:List Nat) {base:Slots} {R':List Res} (h:ECode P N c base R' Q) (hb:keepOf s keep=base:=by simp only [E.keepOf,E.get,E.ev,E.cv,E.fill',E.fill,E.slotsOf,Res.sh,AC.sh,AC.sh.shs,AV.sh,E.splice,List.map_cons,List.map_nil,List.cons_append,List.nil_append,List.append_nil,List.length_cons,List.length_nil,List.take_zero,List.drop_zero,List.take_succ_cons,List.drop_succ_cons,List.drop_nil,List.take_nil,List.set_cons_zero,List.set_cons_succ,Nat.zero_add,Nat.add_zero,Nat.reduceAdd,Nat.reduceSub,reduceIte,Nat.reduceEqDiff,E.back,E.backR,E.ix,Res.un,AC.un,AC.un.uns,AV.un,E.un,Option.map_some,Option.map_none,Option.getD_some,List.getElem?_cons_zero,List.getElem?_cons_succ,List.getElem?_nil,curC,crkO];rfl) (hR:R=R':=by (try simp only [E.keepOf,E.get,E.ev,E.cv,E.fill',E.fill,E.slotsOf,Res.sh,AC.sh,AC.sh.shs,AV.sh,E.splice,List.map_cons,List.map_nil,List.cons_append,List.nil_append,List.append_nil,List.length_cons,List.length_nil,List.take_zero,List.drop_zero,List.take_succ_cons,List.drop_succ_cons,List.drop_nil,List.take_nil,List.set_cons_zero,List.set_cons_succ,Nat.zero_add,Nat.add_zero,Nat.reduceAdd,Nat.reduceSub,reduceIte,Nat.reduceEqDiff,E.back,E.backR,E.ix,Res.un,AC.un,AC.un.uns,AV.un,E.un,Option.map_some,Option.map_none,Option.getD_some,List.getElem?_cons_zero,List.getElem?_cons_succ,List.getElem?_nil,curC,crkO]);rfl):ECode P N c s R Q:=E_tidy keep hb hR h
theorem g_tidy_A137_3 {P:Program} {N n:Nat} {s:Slots} {R:List Res} {Q:Exit→Slots→List Res→Prop} {c:Code} (keep:List Nat) {base:Slots} {R':List Res} (h:GCode P N n c base R' Q) (hb:keepOf s keep=base:=by simp only [E.keepOf,E.get,E.ev,E.cv,E.fill',E.fill,E.slotsOf,Res.sh,AC.sh,AC.sh.shs,AV.sh,E.splice,List.map_cons,List.map_nil,List.cons_append,List.nil_append,List.append_nil,List.length_cons,List.length_nil,List.take_zero,List.drop_zero,List.take_succ_cons,List.drop_succ_cons,List.drop_nil,List.take_nil,List.set_cons_zero,List.set_cons_succ,Nat.zero_add,Nat.add_zero,Nat.reduceAdd,Nat.reduceSub,reduceIte,Nat.reduceEqDiff,E.back,E.backR,E.ix,Res.un,AC.un,AC.un.uns,AV.un,E.un,Option.map_some,Option.map_none,Option.getD_some,List.getElem?_cons_zero,List.getElem?_cons_succ,List.getElem?_nil,curC,crkO,crkR];rfl) (hR:R=R':=by (try simp only [E.keepOf,E.get,E.ev,E.cv,E.fill',E.fill,E.slotsOf,Res.sh,AC.sh,AC.sh.shs,AV.sh,E.splice,List.map_cons,List.map_nil,List.cons_append,List.nil_append,List.append_nil,List.length_cons,List.length_nil,List.take_zero,List.drop_zero,List.take_succ_cons,List.drop_succ_cons,List.drop_nil,List.take_nil,List.set_cons_zero,List.set_cons_succ,Nat.zero_add,Nat.add_zero,Nat.reduceAdd,Nat.reduceSub,reduceIte,Nat.reduceEqDiff,E.back,E.backR,E.ix,Res.un,AC.un,AC.un.uns,AV.un,E.un,Option.map_some,Option.map_none,Option.getD_some,List.getElem?_cons_zero,List.getElem?_cons_succ,List.getElem?_nil,curC,crkO,crkR]);rfl):GCode P N n c s R Q:=G_tidy keep hb hR h
theorem g_forD_A137_4 {P : Program} {N n : Nat} {s : Slots} {R : List Res} {Q : Exit → Slots → List Res → Prop} {α : Type} {c : Code} (keep : List Nat) (mods : α → Slots) (Rf : α → List Res) (I : α → Prop) (m : α → Nat) (x0 : α) {base : Slots} (h0 : I x0) (hR : R = Rf x0) (h1 : chk s (mods x0))
  (round:∀ x,I x→GCode P N n c (mods x++base) (Rf x) (EThen (fun s' R'=>∃ σ,okσ n R' σ=true ∧ ∃ y,m y<m x∧I y∧reR n σ R'=Rf y∧chk (renS n σ s') (mods y)∧chk (renS n σ s') base) Q)) (hb:keepOf s keep=base:=by simp only [E.keepOf,E.get,E.ev,E.cv,E.fill',E.fill,E.slotsOf,Res.sh,AC.sh,AC.sh.shs,AV.sh,E.splice,List.map_cons,List.map_nil,List.cons_append,List.nil_append,List.append_nil,List.length_cons,List.length_nil,List.take_zero,List.drop_zero,List.take_succ_cons,List.drop_succ_cons,List.drop_nil,List.take_nil,List.set_cons_zero,List.set_cons_succ,Nat.zero_add,Nat.add_zero,Nat.reduceAdd,Nat.reduceSub,reduceIte,Nat.reduceEqDiff,E.back,E.backR,E.ix,Res.un,AC.un,AC.un.uns,AV.un,E.un,Option.map_some,Option.map_none,Option.getD_some,List.getElem?_cons_zero,List.getElem?_cons_succ,List.getElem?_nil,curC,crkO,crkR];rfl):GCode P N n (.loop c) s R Q:=G_forD keep mods Rf I m x0 hb h0 hR h1 round
theorem g_seqD_A137_5 {P : Program} {N n : Nat} {s : Slots} {R : List Res} {Q : Exit → Slots → List Res → Prop} {α : Type} {x y : Code} (keep : List Nat) (mods : α → Slots) (Rf : α → List Res) (I : α → Prop) {base : Slots}
  (hx:GCode P N n x s R (EThen (fun s' R'=>∃ σ,okσ n R' σ=true ∧ ∃ z,I z∧reR n σ R'=Rf z∧chk (renS n σ s') (mods z)∧chk (renS n σ s') base) Q)) (hy:∀ z,I z→GCode P N n y (mods z++base) (Rf z) Q) (hb:keepOf s keep=base:=by simp only [E.keepOf,E.get,E.ev,E.cv,E.fill',E.fill,E.slotsOf,Res.sh,AC.sh,AC.sh.shs,AV.sh,E.splice,List.map_cons,List.map_nil,List.cons_append,List.nil_append,List.append_nil,List.length_cons,List.length_nil,List.take_zero,List.drop_zero,List.take_succ_cons,List.drop_succ_cons,List.drop_nil,List.take_nil,List.set_cons_zero,List.set_cons_succ,Nat.zero_add,Nat.add_zero,Nat.reduceAdd,Nat.reduceSub,reduceIte,Nat.reduceEqDiff,E.back,E.backR,E.ix,Res.un,AC.un,AC.un.uns,AV.un,E.un,Option.map_some,Option.map_none,Option.getD_some,List.getElem?_cons_zero,List.getElem?_cons_succ,List.getElem?_nil,curC,crkO,crkR];rfl):GCode P N n (.seq x y) s R Q:=G_seqD keep mods Rf I hb hx hy
theorem e_tidy_A137_6 {P:Program} {N:Nat} {s:Slots} {R:List Res} {Q:Exit→Slots→List Res→Prop} {c:Code} (keep:List Nat) {base:Slots} {R':List Res} (h:ECode P N c base R' Q) (hb:keepOf s keep=base:=by simp only [E.keepOf,E.get,E.ev,E.cv,E.fill',E.fill,E.slotsOf,Res.sh,AC.sh,AC.sh.shs,AV.sh,E.splice,List.map_cons,List.map_nil,List.cons_append,List.nil_append,List.append_nil,List.length_cons,List.length_nil,List.take_zero,List.drop_zero,List.take_succ_cons,List.drop_succ_cons,List.drop_nil,List.take_nil,List.set_cons_zero,List.set_cons_succ,Nat.zero_add,Nat.add_zero,Nat.reduceAdd,Nat.reduceSub,reduceIte,Nat.reduceEqDiff,E.back,E.backR,E.ix,Res.un,AC.un,AC.un.uns,AV.un,E.un,Option.map_some,Option.map_none,Option.getD_some,List.getElem?_cons_zero,List.getElem?_cons_succ,List.getElem?_nil,curC,crkO,crkR];rfl) (hR:R=R':=by (try simp only [E.keepOf,E.get,E.ev,E.cv,E.fill',E.fill,E.slotsOf,Res.sh,AC.sh,AC.sh.shs,AV.sh,E.splice,List.map_cons,List.map_nil,List.cons_append,List.nil_append,List.append_nil,List.length_cons,List.length_nil,List.take_zero,List.drop_zero,List.take_succ_cons,List.drop_succ_cons,List.drop_nil,List.take_nil,List.set_cons_zero,List.set_cons_succ,Nat.zero_add,Nat.add_zero,Nat.reduceAdd,Nat.reduceSub,reduceIte,Nat.reduceEqDiff,E.back,E.backR,E.ix,Res.un,AC.un,AC.un.uns,AV.un,E.un,Option.map_some,Option.map_none,Option.getD_some,List.getElem?_cons_zero,List.getElem?_cons_succ,List.getElem?_nil,curC,crkO,crkR]);rfl):ECode P N c s R Q:=E_tidy keep hb hR h
theorem g_tidy_A137_7 {P:Program} {N n:Nat} {s:Slots} {R:List Res} {Q:Exit→Slots→List Res→Prop} {c:Code} (keep:List Nat) {base:Slots} {R':List Res} (h:GCode P N n c base R' Q) (hb:keepOf s keep=base:=by simp only [E.keepOf,E.get,E.ev,E.cv,E.fill',E.fill,E.slotsOf,Res.sh,AC.sh,AC.sh.shs,AV.sh,E.splice,List.map_cons,List.map_nil,List.cons_append,List.nil_append,List.append_nil,List.length_cons,List.length_nil,List.take_zero,List.drop_zero,List.take_succ_cons,List.drop_succ_cons,List.drop_nil,List.take_nil,List.set_cons_zero,List.set_cons_succ,Nat.zero_add,Nat.add_zero,Nat.reduceAdd,Nat.reduceSub,reduceIte,Nat.reduceEqDiff,E.back,E.backR,E.ix,Res.un,AC.un,AC.un.uns,AV.un,E.un,Option.map_some,Option.map_none,Option.getD_some,List.getElem?_cons_zero,List.getElem?_cons_succ,List.getElem?_nil,curC,crkO];rfl) (hR:R=R':=by (try simp only [E.keepOf,E.get,E.ev,E.cv,E.fill',E.fill,E.slotsOf,Res.sh,AC.sh,AC.sh.shs,AV.sh,E.splice,List.map_cons,List.map_nil,List.cons_append,List.nil_append,List.append_nil,List.length_cons,List.length_nil,List.take_zero,List.drop_zero,List.take_succ_cons,List.drop_succ_cons,List.drop_nil,List.take_nil,List.set_cons_zero,List.set_cons_succ,Nat.zero_add,Nat.add_zero,Nat.reduceAdd,Nat.reduceSub,reduceIte,Nat.reduceEqDiff,E.back,E.backR,E.ix,Res.un,AC.un,AC.un.uns,AV.un,E.un,Option.map_some,Option.map_none,Option.getD_some,List.getElem?_cons_zero,List.getElem?_cons_succ,List.getElem?_nil,curC,crkO]);rfl):GCode P N n c s R Q:=G_tidy keep hb hR h
theorem g_tidy_A137_8 {P:Program} {N n:Nat} {s:Slots} {R:List Res} {Q:Exit→Slots→List Res→Prop} {c:Code} (keep:List Nat) {base:Slots} {R':List Res} (h:GCode P N n c base R' Q) (hb:keepOf s keep=base:=by simp only [E.keepOf,E.get,E.ev,E.cv,E.fill',E.fill,E.slotsOf,Res.sh,AC.sh,AC.sh.shs,AV.sh,E.splice,List.map_cons,List.map_nil,List.cons_append,List.nil_append,List.append_nil,List.length_cons,List.length_nil,List.take_zero,List.drop_zero,List.take_succ_cons,List.drop_succ_cons,List.drop_nil,List.take_nil,List.set_cons_zero,List.set_cons_succ,Nat.zero_add,Nat.add_zero,Nat.reduceAdd,Nat.reduceSub,reduceIte,Nat.reduceEqDiff,E.back,E.backR,E.ix,Res.un,AC.un,AC.un.uns,AV.un,E.un,Option.map_some,Option.map_none,Option.getD_some,List.getElem?_cons_zero,List.getElem?_cons_succ,List.getElem?_nil,curC,crkO,crkR,pndO,pndR];rfl) (hR:R=R':=by (try simp only [E.keepOf,E.get,E.ev,E.cv,E.fill',E.fill,E.slotsOf,Res.sh,AC.sh,AC.sh.shs,AV.sh,E.splice,List.map_cons,List.map_nil,List.cons_append,List.nil_append,List.append_nil,List.length_cons,List.length_nil,List.take_zero,List.drop_zero,List.take_succ_cons,List.drop_succ_cons,List.drop_nil,List.take_nil,List.set_cons_zero,List.set_cons_succ,Nat.zero_add,Nat.add_zero,Nat.reduceAdd,Nat.reduceSub,reduceIte,Nat.reduceEqDiff,E.back,E.backR,E.ix,Res.un,AC.un,AC.un.uns,AV.un,E.un,Option.map_some,Option.map_none,Option.getD_some,List.getElem?_cons_zero,List.getElem?_cons_succ,List.getElem?_nil,curC,crkO,crkR,pndO,pndR]);rfl):GCode P N n c s R Q:=G_tidy keep hb hR h
theorem g_forD_A137_9 {P : Program} {N n : Nat} {s : Slots} {R : List Res} {Q : Exit → Slots → List Res → Prop} {α : Type} {c : Code} (keep : List Nat) (mods : α → Slots) (Rf : α → List Res) (I : α → Prop) (m : α → Nat) (x0 : α) {base : Slots} (h0 : I x0) (hR : R = Rf x0) (h1 : chk s (mods x0))
  (round:∀ x,I x→GCode P N n c (mods x++base) (Rf x) (EThen (fun s' R'=>∃ σ,okσ n R' σ=true ∧ ∃ y,m y<m x∧I y∧reR n σ R'=Rf y∧chk (renS n σ s') (mods y)∧chk (renS n σ s') base) Q)) (hb:keepOf s keep=base:=by simp only [E.keepOf,E.get,E.ev,E.cv,E.fill',E.fill,E.slotsOf,Res.sh,AC.sh,AC.sh.shs,AV.sh,E.splice,List.map_cons,List.map_nil,List.cons_append,List.nil_append,List.append_nil,List.length_cons,List.length_nil,List.take_zero,List.drop_zero,List.take_succ_cons,List.drop_succ_cons,List.drop_nil,List.take_nil,List.set_cons_zero,List.set_cons_succ,Nat.zero_add,Nat.add_zero,Nat.reduceAdd,Nat.reduceSub,reduceIte,Nat.reduceEqDiff,E.back,E.backR,E.ix,Res.un,AC.un,AC.un.uns,AV.un,E.un,Option.map_some,Option.map_none,Option.getD_some,List.getElem?_cons_zero,List.getElem?_cons_succ,List.getElem?_nil,curC,crkO,crkR,pndO,pndR];rfl):GCode P N n (.loop c) s R Q:=G_forD keep mods Rf I m x0 hb h0 hR h1 round

set_option maxRecDepth 20000 in
set_option maxHeartbeats 2000000 in
theorem c_spec_l2Values_fv (l : List Int) (i h most : Int) (hb : byL l) (hi : curOk l i) (hm : 0 ≤ most ∧ most ≤ 100000) : EFn Try.prog 120 [.c (.bp 0 0), .c (.sc (.int .i64 most))] [.box (curC l i h), .box [.sc (.slice none 0 0), .sc (.slice none 0 0), .sc (.slice none 0 0)], .box [.sc (.slice none 0 0), .sc (.slice none 0 0)], .box [.sc (.slice none 0 0), .sc (.slice none 0 0), .sc (.slice none 0 0)], .box [.sc (.slice none 0 0), .sc (.slice none 0 0), .sc (.slice none 0 0)]] (fun r S => ∃ (xs : List Int) (i' h' : Int), (r = .c (.sl 5 0 xs.length xs.length) ∧ S = [.box (curC l i' h'), .box [.sc (.slice none 0 0), .sc (.slice none 0 0), .sc (.slice none 0 0)], .box [.sc (.slice none 0 0), .sc (.slice none 0 0)], .box [.sc (.slice none 0 0), .sc (.slice none 0 0), .sc (.slice none 0 0)], .box [.sc (.slice none 0 0), .sc (.slice none 0 0), .sc (.slice none 0 0)], .row 3 1 (ints xs)]) ∧ curOk l i' ∧ (xs.length : Int) ≤ most) := by
 refine E_fn Try.func120 rfl (Nat.le_of_ble_eq_true rfl) ?_
 refine E_seq ?_
 refine E_region' (L:=[0]) rfl ?_
 refine xas ?_
 refine EOps_nil ?_
 refine E_seq ?_
 refine E_region' (L:=[0,1]) rfl ?_
 refine EOps_go rfl rfl (Heavy.op (H_bslice rfl rfl (by decide) sl_24 ty_3 za_3 ⟨rfl,by decide⟩ (by decide) rfl rfl rfl rfl ?_))
 refine xas ?_
 refine EOps_nil ?_
 refine E_seq ?_
 refine e_tidy_A137_0 [0,1,4,5] ?_
 refine E_region' (L:=[0,1,2,3]) rfl ?_
 refine xmv ?_
 refine EOps_go rfl rfl (Heavy.op (H_bslice rfl rfl (by decide) sl_24 ty_3 za_3 ⟨rfl,by decide⟩ (by decide) rfl rfl rfl rfl ?_))
 refine EOps_go rfl rfl (xe2 rfl rfl rfl ca_159 (c_spec_l1PickInt l i h _ 5 [3,10,30,1000] 4 hb hi (by decide) rfl rfl) ?_)
 rintro r S ⟨w,i1,h1,⟨rfl,rfl⟩,hi1,hw⟩
 have hw':0<w∧w≤1000:=by simp at hw;omega
 refine xas ?_
 refine EOps_nil ?_
 refine E_seq ?_
 refine E_seq ?_
 refine e_tidy_A137_0 [0,1,4,5,6] ?_
 refine E_region' (L:=[0,1,2,3,4]) rfl ?_
 refine xmv ?_
 refine xmv ?_
 refine x_pure rfl rfl rfl xb3 ?_
 refine EOps_go rfl rfl (xe2 rfl rfl rfl ca_114 (c_spec_l1Below l i1 h1 (most+1) _ hb hi1 (by omega)) ?_)
 rintro r S ⟨x2,i2,h2,⟨rfl,rfl⟩,hi2,hx2⟩
 obtain⟨k,rfl⟩:∃ k:Nat,x2=(k:Int):=⟨x2.toNat,by omega⟩
 have hk1:=hx2.2.1 (by omega)
 refine xas ?_
 refine EOps_nil ?_
 refine E_block ?_
 refine e_for_A137_1 (α:=Nat × List Int × Int × Int) [0,1,4,6] (fun (n,xs,i3,h3)=>[(7,.c (.sc (.int .i64 ((n:Int))))),(5,.c (.sl 5 0 xs.length xs.length)),(8,.any)]) (fun (n,xs,i3,h3)=>[.box (curC l i3 h3),.box [.sc (.slice none 0 0),.sc (.slice none 0 0),.sc (.slice none 0 0)],.box [.sc (.slice none 0 0),.sc (.slice none 0 0)],.box [.sc (.slice none 0 0),.sc (.slice none 0 0),.sc (.slice none 0 0)],.box [.sc (.slice none 0 0),.sc (.slice none 0 0),.sc (.slice none 0 0)],.row 3 1 (ints xs),_]) (fun (n,xs,i3,h3)=>(n:Int)+xs.length≤most∧curOk l i3) (fun (n,xs,i3,h3)=>n) ((k,[],i2,h2)) ?_ (rfl) ⟨.inr rfl,.inr rfl,.inl rfl,trivial⟩ ?_
 ·exact⟨by simp;omega,hi2⟩
 rintro⟨n,xs,i3,h3⟩ ⟨hnx,hi3⟩
 dsimp only at *
 refine E_seq ?_
 refine E_seq ?_
 refine E_region' (L:=[0,1]) rfl ?_
 refine xmv ?_
 refine x_pure rfl rfl rfl (L_bin rfl rfl rfl rfl) ?_
 refine EOps_nil ?_
 refine E_cond rfl (fun hc18=>?_) (fun hc18=>?_)
 ·have hn1 : 0 < n := by simp at hc18; omega
  refine E_skip ?_
  refine E_seq ?_
  refine E_block ?_
  refine E_seq ?_
  refine e_tidy_A137_0 [0,1,4,5,6,7,8,18] ?_
  refine E_region' (L:=[0,1,2,3,4,5,6]) rfl ?_
  refine xmv ?_
  refine xmv ?_
  refine EOps_go rfl rfl (xe2 rfl rfl rfl ca_114 (c_spec_l1Below l i3 h3 w _ hb hi3 (by omega)) ?_)
  rintro r S ⟨x4,i4,h4,⟨rfl,rfl⟩,hi4,hx4⟩
  refine xmv ?_
  refine x_pure rfl rfl rfl (L_quo rfl rfl rfl (by omega)) ?_
  refine x_pure rfl rfl rfl xb4 ?_
  generalize hzz:(IntKind.i64.wrap (x4 - IntKind.i64.wrap (Int.tdiv w 3)))=zz
  refine xas ?_
  refine EOps_nil ?_
  refine E_region' (L:=[0,1,2,3,4]) rfl ?_
  refine xmv ?_
  refine xmv ?_
  refine EOps_go rfl rfl (Heavy.op (H_bslice_ro rfl rfl (by decide) sl_24 ty_3 za_3 ⟨rfl,by decide⟩ (by decide) rfl rfl rfl rfl ?_))
  refine EOps_go rfl rfl (EOp_append (news:=ints [zz]) rfl rfl (by decide) sl_24 ty_3 by_3 za_3 ⟨rfl,by decide⟩ rfl (by first|rfl|assumption) xb6 xb7 xb8 xb9 ?_)
  refine xas ?_
  refine EOps_nil ?_
  refine E_region' (L:=[0,1,2]) rfl ?_
  refine xmv ?_
  refine x_pure rfl rfl rfl xb4 ?_
  refine xas ?_
  refine EOps_nil ?_
  refine⟨(n - 1,xs++[zz],i4,h4),?_,?_,(by dsimp only;rw [← ints_app];rfl),⟨.inr (int_eq (by first|omega|(dsimp only;omega))),.inr ((by dsimp only;rw [← ints_lenApp];rfl)),.inl rfl,trivial⟩,⟨.inr rfl,.inr rfl,.inr rfl,.inr rfl,trivial⟩⟩
  ·dsimp only;omega
  ·exact⟨by simp;omega,hi4⟩
 ·refine E_exit ?_
  refine E_seq ?_
  refine E_region' (L:=[0,1]) rfl ?_
  refine xmv ?_
  refine xas ?_
  refine EOps_nil ?_
  refine E_ret ?_
  exact⟨_,[5],rfl,rfl,xs,i3,h3,⟨rfl,rfl⟩,hi3,by omega⟩

set_option maxRecDepth 20000 in
set_option maxHeartbeats 4000000 in
theorem c_spec_l4Value_fw (l : List Int) (i h : Int) (Y : Crk) (hb : byL l) (hi : curOk l i) (hX : Y.vals.length ≤ 100000) : EFn Try.prog 76 [.c (.bp 0 0), .agg (crkO 5 Y)] [.box (curC l i h), .box [.sc (.slice none 0 0), .sc (.slice none 0 0), .sc (.slice none 0 0)], .box [.sc (.slice none 0 0), .sc (.slice none 0 0)], .box [.sc (.slice none 0 0), .sc (.slice none 0 0), .sc (.slice none 0 0)], .box [.sc (.slice none 0 0), .sc (.slice none 0 0), .sc (.slice none 0 0)], .row 3 1 (ints Y.vals), .row 3 1 (ints Y.rows), .row 129 2 (pairs Y.piv), .box (crkO 5 Y)] (fun r S => ∃ (v i' h' : Int), (r = .c (.sc (.int .i64 v)) ∧ S = [.box (curC l i' h'), .box [.sc (.slice none 0 0), .sc (.slice none 0 0), .sc (.slice none 0 0)], .box [.sc (.slice none 0 0), .sc (.slice none 0 0)], .box [.sc (.slice none 0 0), .sc (.slice none 0 0), .sc (.slice none 0 0)], .box [.sc (.slice none 0 0), .sc (.slice none 0 0), .sc (.slice none 0 0)], .row 3 1 (ints Y.vals), .row 3 1 (ints Y.rows), .row 129 2 (pairs Y.piv), .box (crkO 5 Y)]) ∧ curOk l i') := by
 refine E_fn Try.func76 rfl (Nat.le_of_ble_eq_true rfl) ?_
 refine E_seq ?_
 refine E_region' (L:=[0,1]) rfl ?_
 refine x_box rfl rfl rfl rfl rfl ?_
 refine xas ?_
 refine EOps_nil ?_
 refine E_seq ?_
 refine E_seq ?_
 refine e_tidy_A137_2 [0,1,3,4] ?_
 refine E_region' (L:=[0,1,2,3,4,5,6,7,8]) rfl ?_
 refine x_pure rfl rfl rfl (l_field rfl fo_27_0) ?_
 refine x_light rfl rfl rfl (L_load rfl (xb0 ty_24)) ?_
 refine x_pure rfl rfl rfl (l_len rfl sl_24) ?_
 refine x_pure rfl rfl rfl (L_bin rfl rfl rfl rfl) ?_
 refine xmv ?_
 refine EOps_split 9 (b:=_) rfl (fun hg9=>?_) (fun hg9=>?_)
 ·have hn0 : 0 < Y.vals.length := by simp at hg9; omega
  refine xmv ?_
  refine EOps_go rfl rfl (xe2 rfl rfl rfl ca_128 (c_spec_l1Once l i h 4 _ hb hi (by decide)) ?_)
  rintro r S ⟨b1,i1,h1,⟨rfl,rfl⟩,hi1⟩
  refine x_pure rfl rfl rfl (L_not rfl rfl) ?_
  refine x_pure rfl rfl rfl (L_pick rfl rfl) ?_
  refine EOps_nil ?_
  refine E_cond rfl (fun hc13=>?_) (fun hc13=>?_)
  ·refine E_seq ?_
   refine e_tidy_A137_2 [0,1,3,4,13] ?_
   refine E_drawU mixed ?_
   refine u_pure 0 rfl rfl rfl (l_field rfl fo_27_0) ?_
   refine u_pure 2 rfl rfl rfl (L_move rfl) ?_
   refine u_pure 3 rfl rfl rfl (l_field rfl fo_27_0) ?_
   refine u_pure 9 rfl rfl rfl (L_move rfl) ?_
   refine u_any 1 [4] ⟨?_,?_,trivial⟩
   ·refine u_op 1 rfl rfl (EOp_light rfl (by decide) (L_load rfl (xb2 ty_24)) ?_)
    refine u_any 4 [] ⟨?_,trivial⟩
    refine u_op 4 rfl rfl (EOp_light rfl (by decide) (L_load rfl (xb0 ty_24)) ?_)
    refine u_pure 5 rfl rfl rfl (l_len rfl sl_24) ?_
    refine u_any 6 [] ⟨?_,trivial⟩
    refine u_op 6 rfl rfl (xe2 rfl rfl rfl ca_114 (c_spec_l1Below l i1 h1 (Y.vals.length:Int) _ hb hi1 (by omega)) ?_)
    rintro r S ⟨x2,i2,h2,⟨rfl,rfl⟩,hi2,hx2⟩
    obtain⟨kk,rfl⟩:∃ kk:Nat,x2=(kk:Int):=⟨x2.toNat,by omega⟩
    have hk1:kk<Y.vals.length:=by have:=hx2.2.1 (by omega);omega
    obtain⟨y,hy⟩:=at_lt (l:=Y.vals) hk1
    refine u_pure 7 rfl rfl rfl (L_index rfl rfl (by first|exact i_ro sl_24 ty_3|exact i_sl sl_24 ty_3)) ?_
    refine u_any 8 [10] ⟨?_,?_,trivial⟩
    ·refine u_op 8 rfl rfl (EOp_light rfl (by decide) (L_load rfl (xb2 ty_3)) ?_)
     refine u_any 10 [] ⟨?_,trivial⟩
     refine u_op 10 rfl rfl (xe2 rfl rfl rfl ca_114 (c_spec_l1Below l i2 h2 3 _ hb hi2 (by decide)) ?_)
     rintro r S ⟨x3,i3,h3,⟨rfl,rfl⟩,hi3,hx3⟩
     refine u_pure 11 rfl rfl rfl xb3 ?_
     refine u_pure 12 rfl rfl rfl xb4 ?_
     refine u_pure 13 rfl rfl rfl (L_assign rfl) ?_
     refine u_done ?_
     refine E_ret ?_
     first
      | exact⟨_,[],rfl,rfl,_,i3,h3,⟨rfl,rfl⟩,hi3⟩
      | exact⟨_,[],rfl,rfl,_,i4,h4,⟨rfl,rfl⟩,hi4⟩
    ·refine u_op 10 rfl rfl (xe2 rfl rfl rfl ca_114 (c_spec_l1Below l i2 h2 3 _ hb hi2 (by decide)) ?_)
     rintro r S ⟨x3,i3,h3,⟨rfl,rfl⟩,hi3,hx3⟩
     refine u_any 8 [] ⟨?_,trivial⟩
     refine u_op 8 rfl rfl (EOp_light rfl (by decide) (L_load rfl (xb0 ty_3)) ?_)
     refine u_pure 11 rfl rfl rfl xb3 ?_
     refine u_pure 12 rfl rfl rfl xb4 ?_
     refine u_pure 13 rfl rfl rfl (L_assign rfl) ?_
     refine u_done ?_
     refine E_ret ?_
     first
      | exact⟨_,[],rfl,rfl,_,i3,h3,⟨rfl,rfl⟩,hi3⟩
      | exact⟨_,[],rfl,rfl,_,i4,h4,⟨rfl,rfl⟩,hi4⟩
   ·refine u_op 4 rfl rfl (EOp_light rfl (by decide) (L_load rfl (xb2 ty_24)) ?_)
    refine u_pure 5 rfl rfl rfl (l_len rfl sl_24) ?_
    refine u_any 1 [6] ⟨?_,?_,trivial⟩
    ·refine u_op 1 rfl rfl (EOp_light rfl (by decide) (L_load rfl (xb2 ty_24)) ?_)
     refine u_any 6 [] ⟨?_,trivial⟩
     refine u_op 6 rfl rfl (xe2 rfl rfl rfl ca_114 (c_spec_l1Below l i1 h1 (Y.vals.length:Int) _ hb hi1 (by omega)) ?_)
     rintro r S ⟨x2,i2,h2,⟨rfl,rfl⟩,hi2,hx2⟩
     obtain⟨kk,rfl⟩:∃ kk:Nat,x2=(kk:Int):=⟨x2.toNat,by omega⟩
     have hk1:kk<Y.vals.length:=by have:=hx2.2.1 (by omega);omega
     obtain⟨y,hy⟩:=at_lt (l:=Y.vals) hk1
     refine u_pure 7 rfl rfl rfl (L_index rfl rfl (by first|exact i_ro sl_24 ty_3|exact i_sl sl_24 ty_3)) ?_
     refine u_any 8 [10] ⟨?_,?_,trivial⟩
     ·refine u_op 8 rfl rfl (EOp_light rfl (by decide) (L_load rfl (xb2 ty_3)) ?_)
      refine u_any 10 [] ⟨?_,trivial⟩
      refine u_op 10 rfl rfl (xe2 rfl rfl rfl ca_114 (c_spec_l1Below l i2 h2 3 _ hb hi2 (by decide)) ?_)
      rintro r S ⟨x3,i3,h3,⟨rfl,rfl⟩,hi3,hx3⟩
      refine u_pure 11 rfl rfl rfl xb3 ?_
      refine u_pure 12 rfl rfl rfl xb4 ?_
      refine u_pure 13 rfl rfl rfl (L_assign rfl) ?_
      refine u_done ?_
      refine E_ret ?_
      first
       | exact⟨_,[],rfl,rfl,_,i3,h3,⟨rfl,rfl⟩,hi3⟩
       | exact⟨_,[],rfl,rfl,_,i4,h4,⟨rfl,rfl⟩,hi4⟩
     ·refine u_op 10 rfl rfl (xe2 rfl rfl rfl ca_114 (c_spec_l1Below l i2 h2 3 _ hb hi2 (by decide)) ?_)
      rintro r S ⟨x3,i3,h3,⟨rfl,rfl⟩,hi3,hx3⟩
      refine u_any 8 [] ⟨?_,trivial⟩
      refine u_op 8 rfl rfl (EOp_light rfl (by decide) (L_load rfl (xb0 ty_3)) ?_)
      refine u_pure 11 rfl rfl rfl xb3 ?_
      refine u_pure 12 rfl rfl rfl xb4 ?_
      refine u_pure 13 rfl rfl rfl (L_assign rfl) ?_
      refine u_done ?_
      refine E_ret ?_
      first
       | exact⟨_,[],rfl,rfl,_,i3,h3,⟨rfl,rfl⟩,hi3⟩
       | exact⟨_,[],rfl,rfl,_,i4,h4,⟨rfl,rfl⟩,hi4⟩
    ·refine u_op 6 rfl rfl (xe2 rfl rfl rfl ca_114 (c_spec_l1Below l i1 h1 (Y.vals.length : Int) _ hb hi1 (by omega)) ?_)
     rintro r S ⟨x2,i2,h2,⟨rfl,rfl⟩,hi2,hx2⟩
     obtain⟨kk,rfl⟩:∃ kk:Nat,x2=(kk:Int):=⟨x2.toNat,by omega⟩
     have hk1:kk<Y.vals.length:=by have:=hx2.2.1 (by omega);omega
     obtain⟨y,hy⟩:=at_lt (l:=Y.vals) hk1
     refine u_any 1 [10] ⟨?_,?_,trivial⟩
     ·refine u_op 1 rfl rfl (EOp_light rfl (by decide) (L_load rfl (xb2 ty_24)) ?_)
      refine u_pure 7 rfl rfl rfl (L_index rfl rfl (by first|exact i_ro sl_24 ty_3|exact i_sl sl_24 ty_3)) ?_
      refine u_any 8 [10] ⟨?_,?_,trivial⟩
      ·refine u_op 8 rfl rfl (EOp_light rfl (by decide) (L_load rfl (xb2 ty_3)) ?_)
       refine u_any 10 [] ⟨?_,trivial⟩
       refine u_op 10 rfl rfl (xe2 rfl rfl rfl ca_114 (c_spec_l1Below l i2 h2 3 _ hb hi2 (by decide)) ?_)
       rintro r S ⟨x3,i3,h3,⟨rfl,rfl⟩,hi3,hx3⟩
       refine u_pure 11 rfl rfl rfl xb3 ?_
       refine u_pure 12 rfl rfl rfl xb4 ?_
       refine u_pure 13 rfl rfl rfl (L_assign rfl) ?_
       refine u_done ?_
       refine E_ret ?_
       first
        | exact⟨_,[],rfl,rfl,_,i3,h3,⟨rfl,rfl⟩,hi3⟩
        | exact⟨_,[],rfl,rfl,_,i4,h4,⟨rfl,rfl⟩,hi4⟩
      ·refine u_op 10 rfl rfl (xe2 rfl rfl rfl ca_114 (c_spec_l1Below l i2 h2 3 _ hb hi2 (by decide)) ?_)
       rintro r S ⟨x3,i3,h3,⟨rfl,rfl⟩,hi3,hx3⟩
       refine u_any 8 [] ⟨?_,trivial⟩
       refine u_op 8 rfl rfl (EOp_light rfl (by decide) (L_load rfl (xb0 ty_3)) ?_)
       refine u_pure 11 rfl rfl rfl xb3 ?_
       refine u_pure 12 rfl rfl rfl xb4 ?_
       refine u_pure 13 rfl rfl rfl (L_assign rfl) ?_
       refine u_done ?_
       refine E_ret ?_
       first
        | exact⟨_,[],rfl,rfl,_,i3,h3,⟨rfl,rfl⟩,hi3⟩
        | exact⟨_,[],rfl,rfl,_,i4,h4,⟨rfl,rfl⟩,hi4⟩
     ·refine u_op 10 rfl rfl (xe2 rfl rfl rfl ca_114 (c_spec_l1Below l i2 h2 3 _ hb hi2 (by decide)) ?_)
      rintro r S ⟨x3,i3,h3,⟨rfl,rfl⟩,hi3,hx3⟩
      refine u_any 1 [] ⟨?_,trivial⟩
      refine u_op 1 rfl rfl (EOp_light rfl (by decide) (L_load rfl (xb0 ty_24)) ?_)
      refine u_pure 7 rfl rfl rfl (L_index rfl rfl (by first|exact i_ro sl_24 ty_3|exact i_sl sl_24 ty_3)) ?_
      refine u_any 8 [] ⟨?_,trivial⟩
      refine u_op 8 rfl rfl (EOp_light rfl (by decide) (L_load rfl (xb0 ty_3)) ?_)
      refine u_pure 11 rfl rfl rfl xb3 ?_
      refine u_pure 12 rfl rfl rfl xb4 ?_
      refine u_pure 13 rfl rfl rfl (L_assign rfl) ?_
      refine u_done ?_
      refine E_ret ?_
      first
       | exact⟨_,[],rfl,rfl,_,i3,h3,⟨rfl,rfl⟩,hi3⟩
       | exact⟨_,[],rfl,rfl,_,i4,h4,⟨rfl,rfl⟩,hi4⟩
  ·refine E_skip ?_
   refine E_seq ?_
   refine e_tidy_A137_2 [0,1,3,4,13] ?_
   refine E_region' (L:=[0,1,2,3]) rfl ?_
   refine xmv ?_
   refine EOps_go rfl rfl (Heavy.op (H_bslice rfl rfl (by decide) sl_24 ty_3 za_3 ⟨rfl,by decide⟩ (by decide) rfl rfl rfl rfl ?_))
   refine EOps_go rfl rfl (xe2 rfl rfl rfl ca_159 (c_spec_l1PickInt l _ _ _ 9 [0,3,-2,-1000,1000,50] 6 hb (by assumption) (by decide) rfl rfl) ?_)
   rintro r S ⟨x4,i4,h4,⟨rfl,rfl⟩,hi4,hx4⟩
   refine xas ?_
   refine EOps_nil ?_
   refine E_ret ?_
   first
    | exact⟨_,[],rfl,rfl,_,i3,h3,⟨rfl,rfl⟩,hi3⟩
    | exact⟨_,[],rfl,rfl,_,i4,h4,⟨rfl,rfl⟩,hi4⟩
 ·refine x_skip rfl rfl rfl ?_
  refine x_skip rfl rfl rfl ?_
  refine x_skip rfl rfl rfl ?_
  refine x_pure rfl rfl rfl (L_pick rfl rfl) ?_
  refine EOps_nil ?_
  refine E_cond rfl (fun hc13=>?_) (fun hc13=>?_)
  ·exact Bool.noConfusion (hc13:false=true)
  ·refine E_skip ?_
   refine E_seq ?_
   refine e_tidy_A137_2 [0,1,3,4,13] ?_
   refine E_region' (L:=[0,1,2,3]) rfl ?_
   refine xmv ?_
   refine EOps_go rfl rfl (Heavy.op (H_bslice rfl rfl (by decide) sl_24 ty_3 za_3 ⟨rfl,by decide⟩ (by decide) rfl rfl rfl rfl ?_))
   refine EOps_go rfl rfl (xe2 rfl rfl rfl ca_159 (c_spec_l1PickInt l _ _ _ 9 [0,3,-2,-1000,1000,50] 6 hb (by assumption) (by decide) rfl rfl) ?_)
   rintro r S ⟨x4,i4,h4,⟨rfl,rfl⟩,hi4,hx4⟩
   refine xas ?_
   refine EOps_nil ?_
   refine E_ret ?_
   first
    | exact⟨_,[],rfl,rfl,_,i3,h3,⟨rfl,rfl⟩,hi3⟩
    | exact⟨_,[],rfl,rfl,_,i4,h4,⟨rfl,rfl⟩,hi4⟩

set_option maxRecDepth 20000 in
set_option maxHeartbeats 4000000 in
theorem c_spec_l4Value_fwx (l : List Int) (i h : Int) (Y : Crk) (hb : byL l) (hi : curOk l i) (hX : Y.vals.length ≤ 100000) : EFn Try.prog 76 [.c (.bp 0 0), .agg (crkO 5 Y)] [.box (curC l i h), .box [.sc (.slice none 0 0), .sc (.slice none 0 0), .sc (.slice none 0 0)], .box [.sc (.slice none 0 0), .sc (.slice none 0 0)], .box [.sc (.slice none 0 0), .sc (.slice none 0 0), .sc (.slice none 0 0)], .box [.sc (.slice none 0 0), .sc (.slice none 0 0), .sc (.slice none 0 0)], .row 3 1 (ints Y.vals), .row 3 1 (ints Y.rows), .row 129 2 (pairs Y.piv), .box (crkO 5 Y), .box [.sc (.slice none 0 0), .sc (.slice none 0 0), .sc (.slice none 0 0)]] (fun r S => ∃ (v i' h' : Int), (r = .c (.sc (.int .i64 v)) ∧ S = [.box (curC l i' h'), .box [.sc (.slice none 0 0), .sc (.slice none 0 0), .sc (.slice none 0 0)], .box [.sc (.slice none 0 0), .sc (.slice none 0 0)], .box [.sc (.slice none 0 0), .sc (.slice none 0 0), .sc (.slice none 0 0)], .box [.sc (.slice none 0 0), .sc (.slice none 0 0), .sc (.slice none 0 0)], .row 3 1 (ints Y.vals), .row 3 1 (ints Y.rows), .row 129 2 (pairs Y.piv), .box (crkO 5 Y), .box [.sc (.slice none 0 0), .sc (.slice none 0 0), .sc (.slice none 0 0)]]) ∧ curOk l i') := by
 refine E_fn Try.func76 rfl (Nat.le_of_ble_eq_true rfl) ?_
 refine E_seq ?_
 refine E_region' (L:=[0,1]) rfl ?_
 refine x_box rfl rfl rfl rfl rfl ?_
 refine xas ?_
 refine EOps_nil ?_
 refine E_seq ?_
 refine E_seq ?_
 refine e_tidy_A137_2 [0,1,3,4] ?_
 refine E_region' (L:=[0,1,2,3,4,5,6,7,8]) rfl ?_
 refine x_pure rfl rfl rfl (l_field rfl fo_27_0) ?_
 refine x_light rfl rfl rfl (L_load rfl (xb0 ty_24)) ?_
 refine x_pure rfl rfl rfl (l_len rfl sl_24) ?_
 refine x_pure rfl rfl rfl (L_bin rfl rfl rfl rfl) ?_
 refine xmv ?_
 refine EOps_split 9 (b:=_) rfl (fun hg9=>?_) (fun hg9=>?_)
 ·have hn0 : 0 < Y.vals.length := by simp at hg9; omega
  refine xmv ?_
  refine EOps_go rfl rfl (xe2 rfl rfl rfl ca_128 (c_spec_l1Once l i h 4 _ hb hi (by decide)) ?_)
  rintro r S ⟨b1,i1,h1,⟨rfl,rfl⟩,hi1⟩
  refine x_pure rfl rfl rfl (L_not rfl rfl) ?_
  refine x_pure rfl rfl rfl (L_pick rfl rfl) ?_
  refine EOps_nil ?_
  refine E_cond rfl (fun hc13=>?_) (fun hc13=>?_)
  ·refine E_seq ?_
   refine e_tidy_A137_2 [0,1,3,4,13] ?_
   refine E_drawU mixed ?_
   refine u_pure 0 rfl rfl rfl (l_field rfl fo_27_0) ?_
   refine u_pure 2 rfl rfl rfl (L_move rfl) ?_
   refine u_pure 3 rfl rfl rfl (l_field rfl fo_27_0) ?_
   refine u_pure 9 rfl rfl rfl (L_move rfl) ?_
   refine u_any 1 [4] ⟨?_,?_,trivial⟩
   ·refine u_op 1 rfl rfl (EOp_light rfl (by decide) (L_load rfl (xb2 ty_24)) ?_)
    refine u_any 4 [] ⟨?_,trivial⟩
    refine u_op 4 rfl rfl (EOp_light rfl (by decide) (L_load rfl (xb0 ty_24)) ?_)
    refine u_pure 5 rfl rfl rfl (l_len rfl sl_24) ?_
    refine u_any 6 [] ⟨?_,trivial⟩
    refine u_op 6 rfl rfl (xe2 rfl rfl rfl ca_114 (c_spec_l1Below l i1 h1 (Y.vals.length:Int) _ hb hi1 (by omega)) ?_)
    rintro r S ⟨x2,i2,h2,⟨rfl,rfl⟩,hi2,hx2⟩
    obtain⟨kk,rfl⟩:∃ kk:Nat,x2=(kk:Int):=⟨x2.toNat,by omega⟩
    have hk1:kk<Y.vals.length:=by have:=hx2.2.1 (by omega);omega
    obtain⟨y,hy⟩:=at_lt (l:=Y.vals) hk1
    refine u_pure 7 rfl rfl rfl (L_index rfl rfl (by first|exact i_ro sl_24 ty_3|exact i_sl sl_24 ty_3)) ?_
    refine u_any 8 [10] ⟨?_,?_,trivial⟩
    ·refine u_op 8 rfl rfl (EOp_light rfl (by decide) (L_load rfl (xb2 ty_3)) ?_)
     refine u_any 10 [] ⟨?_,trivial⟩
     refine u_op 10 rfl rfl (xe2 rfl rfl rfl ca_114 (c_spec_l1Below l i2 h2 3 _ hb hi2 (by decide)) ?_)
     rintro r S ⟨x3,i3,h3,⟨rfl,rfl⟩,hi3,hx3⟩
     refine u_pure 11 rfl rfl rfl xb3 ?_
     refine u_pure 12 rfl rfl rfl xb4 ?_
     refine u_pure 13 rfl rfl rfl (L_assign rfl) ?_
     refine u_done ?_
     refine E_ret ?_
     first
      | exact⟨_,[],rfl,rfl,_,i3,h3,⟨rfl,rfl⟩,hi3⟩
      | exact⟨_,[],rfl,rfl,_,i4,h4,⟨rfl,rfl⟩,hi4⟩
    ·refine u_op 10 rfl rfl (xe2 rfl rfl rfl ca_114 (c_spec_l1Below l i2 h2 3 _ hb hi2 (by decide)) ?_)
     rintro r S ⟨x3,i3,h3,⟨rfl,rfl⟩,hi3,hx3⟩
     refine u_any 8 [] ⟨?_,trivial⟩
     refine u_op 8 rfl rfl (EOp_light rfl (by decide) (L_load rfl (xb0 ty_3)) ?_)
     refine u_pure 11 rfl rfl rfl xb3 ?_
     refine u_pure 12 rfl rfl rfl xb4 ?_
     refine u_pure 13 rfl rfl rfl (L_assign rfl) ?_
     refine u_done ?_
     refine E_ret ?_
     first
      | exact⟨_,[],rfl,rfl,_,i3,h3,⟨rfl,rfl⟩,hi3⟩
      | exact⟨_,[],rfl,rfl,_,i4,h4,⟨rfl,rfl⟩,hi4⟩
   ·refine u_op 4 rfl rfl (EOp_light rfl (by decide) (L_load rfl (xb2 ty_24)) ?_)
    refine u_pure 5 rfl rfl rfl (l_len rfl sl_24) ?_
    refine u_any 1 [6] ⟨?_,?_,trivial⟩
    ·refine u_op 1 rfl rfl (EOp_light rfl (by decide) (L_load rfl (xb2 ty_24)) ?_)
     refine u_any 6 [] ⟨?_,trivial⟩
     refine u_op 6 rfl rfl (xe2 rfl rfl rfl ca_114 (c_spec_l1Below l i1 h1 (Y.vals.length:Int) _ hb hi1 (by omega)) ?_)
     rintro r S ⟨x2,i2,h2,⟨rfl,rfl⟩,hi2,hx2⟩
     obtain⟨kk,rfl⟩:∃ kk:Nat,x2=(kk:Int):=⟨x2.toNat,by omega⟩
     have hk1:kk<Y.vals.length:=by have:=hx2.2.1 (by omega);omega
     obtain⟨y,hy⟩:=at_lt (l:=Y.vals) hk1
     refine u_pure 7 rfl rfl rfl (L_index rfl rfl (by first|exact i_ro sl_24 ty_3|exact i_sl sl_24 ty_3)) ?_
     refine u_any 8 [10] ⟨?_,?_,trivial⟩
     ·refine u_op 8 rfl rfl (EOp_light rfl (by decide) (L_load rfl (xb2 ty_3)) ?_)
      refine u_any 10 [] ⟨?_,trivial⟩
      refine u_op 10 rfl rfl (xe2 rfl rfl rfl ca_114 (c_spec_l1Below l i2 h2 3 _ hb hi2 (by decide)) ?_)
      rintro r S ⟨x3,i3,h3,⟨rfl,rfl⟩,hi3,hx3⟩
      refine u_pure 11 rfl rfl rfl xb3 ?_
      refine u_pure 12 rfl rfl rfl xb4 ?_
      refine u_pure 13 rfl rfl rfl (L_assign rfl) ?_
      refine u_done ?_
      refine E_ret ?_
      first
       | exact⟨_,[],rfl,rfl,_,i3,h3,⟨rfl,rfl⟩,hi3⟩
       | exact⟨_,[],rfl,rfl,_,i4,h4,⟨rfl,rfl⟩,hi4⟩
     ·refine u_op 10 rfl rfl (xe2 rfl rfl rfl ca_114 (c_spec_l1Below l i2 h2 3 _ hb hi2 (by decide)) ?_)
      rintro r S ⟨x3,i3,h3,⟨rfl,rfl⟩,hi3,hx3⟩
      refine u_any 8 [] ⟨?_,trivial⟩
      refine u_op 8 rfl rfl (EOp_light rfl (by decide) (L_load rfl (xb0 ty_3)) ?_)
      refine u_pure 11 rfl rfl rfl xb3 ?_
      refine u_pure 12 rfl rfl rfl xb4 ?_
      refine u_pure 13 rfl rfl rfl (L_assign rfl) ?_
      refine u_done ?_
      refine E_ret ?_
      first
       | exact⟨_,[],rfl,rfl,_,i3,h3,⟨rfl,rfl⟩,hi3⟩
       | exact⟨_,[],rfl,rfl,_,i4,h4,⟨rfl,rfl⟩,hi4⟩
    ·refine u_op 6 rfl rfl (xe2 rfl rfl rfl ca_114 (c_spec_l1Below l i1 h1 (Y.vals.length : Int) _ hb hi1 (by omega)) ?_)
     rintro r S ⟨x2,i2,h2,⟨rfl,rfl⟩,hi2,hx2⟩
     obtain⟨kk,rfl⟩:∃ kk:Nat,x2=(kk:Int):=⟨x2.toNat,by omega⟩
     have hk1:kk<Y.vals.length:=by have:=hx2.2.1 (by omega);omega
     obtain⟨y,hy⟩:=at_lt (l:=Y.vals) hk1
     refine u_any 1 [10] ⟨?_,?_,trivial⟩
     ·refine u_op 1 rfl rfl (EOp_light rfl (by decide) (L_load rfl (xb2 ty_24)) ?_)
      refine u_pure 7 rfl rfl rfl (L_index rfl rfl (by first|exact i_ro sl_24 ty_3|exact i_sl sl_24 ty_3)) ?_
      refine u_any 8 [10] ⟨?_,?_,trivial⟩
      ·refine u_op 8 rfl rfl (EOp_light rfl (by decide) (L_load rfl (xb2 ty_3)) ?_)
       refine u_any 10 [] ⟨?_,trivial⟩
       refine u_op 10 rfl rfl (xe2 rfl rfl rfl ca_114 (c_spec_l1Below l i2 h2 3 _ hb hi2 (by decide)) ?_)
       rintro r S ⟨x3,i3,h3,⟨rfl,rfl⟩,hi3,hx3⟩
       refine u_pure 11 rfl rfl rfl xb3 ?_
       refine u_pure 12 rfl rfl rfl xb4 ?_
       refine u_pure 13 rfl rfl rfl (L_assign rfl) ?_
       refine u_done ?_
       refine E_ret ?_
       first
        | exact⟨_,[],rfl,rfl,_,i3,h3,⟨rfl,rfl⟩,hi3⟩
        | exact⟨_,[],rfl,rfl,_,i4,h4,⟨rfl,rfl⟩,hi4⟩
      ·refine u_op 10 rfl rfl (xe2 rfl rfl rfl ca_114 (c_spec_l1Below l i2 h2 3 _ hb hi2 (by decide)) ?_)
       rintro r S ⟨x3,i3,h3,⟨rfl,rfl⟩,hi3,hx3⟩
       refine u_any 8 [] ⟨?_,trivial⟩
       refine u_op 8 rfl rfl (EOp_light rfl (by decide) (L_load rfl (xb0 ty_3)) ?_)
       refine u_pure 11 rfl rfl rfl xb3 ?_
       refine u_pure 12 rfl rfl rfl xb4 ?_
       refine u_pure 13 rfl rfl rfl (L_assign rfl) ?_
       refine u_done ?_
       refine E_ret ?_
       first
        | exact⟨_,[],rfl,rfl,_,i3,h3,⟨rfl,rfl⟩,hi3⟩
        | exact⟨_,[],rfl,rfl,_,i4,h4,⟨rfl,rfl⟩,hi4⟩
     ·refine u_op 10 rfl rfl (xe2 rfl rfl rfl ca_114 (c_spec_l1Below l i2 h2 3 _ hb hi2 (by decide)) ?_)
      rintro r S ⟨x3,i3,h3,⟨rfl,rfl⟩,hi3,hx3⟩
      refine u_any 1 [] ⟨?_,trivial⟩
      refine u_op 1 rfl rfl (EOp_light rfl (by decide) (L_load rfl (xb0 ty_24)) ?_)
      refine u_pure 7 rfl rfl rfl (L_index rfl rfl (by first|exact i_ro sl_24 ty_3|exact i_sl sl_24 ty_3)) ?_
      refine u_any 8 [] ⟨?_,trivial⟩
      refine u_op 8 rfl rfl (EOp_light rfl (by decide) (L_load rfl (xb0 ty_3)) ?_)
      refine u_pure 11 rfl rfl rfl xb3 ?_
      refine u_pure 12 rfl rfl rfl xb4 ?_
      refine u_pure 13 rfl rfl rfl (L_assign rfl) ?_
      refine u_done ?_
      refine E_ret ?_
      first
       | exact⟨_,[],rfl,rfl,_,i3,h3,⟨rfl,rfl⟩,hi3⟩
       | exact⟨_,[],rfl,rfl,_,i4,h4,⟨rfl,rfl⟩,hi4⟩
  ·refine E_skip ?_
   refine E_seq ?_
   refine e_tidy_A137_2 [0,1,3,4,13] ?_
   refine E_region' (L:=[0,1,2,3]) rfl ?_
   refine xmv ?_
   refine EOps_go rfl rfl (Heavy.op (H_bslice rfl rfl (by decide) sl_24 ty_3 za_3 ⟨rfl,by decide⟩ (by decide) rfl rfl rfl rfl ?_))
   refine EOps_go rfl rfl (xe2 rfl rfl rfl ca_159 (c_spec_l1PickInt l _ _ _ 10 [0,3,-2,-1000,1000,50] 6 hb (by assumption) (by decide) rfl rfl) ?_)
   rintro r S ⟨x4,i4,h4,⟨rfl,rfl⟩,hi4,hx4⟩
   refine xas ?_
   refine EOps_nil ?_
   refine E_ret ?_
   first
    | exact⟨_,[],rfl,rfl,_,i3,h3,⟨rfl,rfl⟩,hi3⟩
    | exact⟨_,[],rfl,rfl,_,i4,h4,⟨rfl,rfl⟩,hi4⟩
 ·refine x_skip rfl rfl rfl ?_
  refine x_skip rfl rfl rfl ?_
  refine x_skip rfl rfl rfl ?_
  refine x_pure rfl rfl rfl (L_pick rfl rfl) ?_
  refine EOps_nil ?_
  refine E_cond rfl (fun hc13=>?_) (fun hc13=>?_)
  ·exact Bool.noConfusion (hc13:false=true)
  ·refine E_skip ?_
   refine E_seq ?_
   refine e_tidy_A137_2 [0,1,3,4,13] ?_
   refine E_region' (L:=[0,1,2,3]) rfl ?_
   refine xmv ?_
   refine EOps_go rfl rfl (Heavy.op (H_bslice rfl rfl (by decide) sl_24 ty_3 za_3 ⟨rfl,by decide⟩ (by decide) rfl rfl rfl rfl ?_))
   refine EOps_go rfl rfl (xe2 rfl rfl rfl ca_159 (c_spec_l1PickInt l _ _ _ 10 [0,3,-2,-1000,1000,50] 6 hb (by assumption) (by decide) rfl rfl) ?_)
   rintro r S ⟨x4,i4,h4,⟨rfl,rfl⟩,hi4,hx4⟩
   refine xas ?_
   refine EOps_nil ?_
   refine E_ret ?_
   first
    | exact⟨_,[],rfl,rfl,_,i3,h3,⟨rfl,rfl⟩,hi3⟩
    | exact⟨_,[],rfl,rfl,_,i4,h4,⟨rfl,rfl⟩,hi4⟩

set_option maxRecDepth 20000 in
set_option maxHeartbeats 4000000 in
theorem c_spec_l4Cracker_fc (l : List Int) (i h : Int) (hb : byL l) (hi : curOk l i) : EFn Try.prog 161 [.c (.bp 0 0)] [.box (curC l i h), .box [.sc (.slice none 0 0), .sc (.slice none 0 0), .sc (.slice none 0 0)], .box [.sc (.slice none 0 0), .sc (.slice none 0 0)], .box [.sc (.slice none 0 0), .sc (.slice none 0 0), .sc (.slice none 0 0)]] (fun r S => ∃ (Y : Crk) (i' h' : Int), (r = .agg (crkO 4 Y) ∧ S = [.box (curC l i' h'), .box [.sc (.slice none 0 0), .sc (.slice none 0 0), .sc (.slice none 0 0)], .box [.sc (.slice none 0 0), .sc (.slice none 0 0)], .box [.sc (.slice none 0 0), .sc (.slice none 0 0), .sc (.slice none 0 0)], .row 3 1 (ints Y.vals), .row 3 1 (ints Y.rows), .row 129 2 (pairs Y.piv)]) ∧ curOk l i' ∧ Y.vals.length ≤ 14 ∧ Y.rows.length ≤ 14 ∧ Y.piv.length ≤ 4) := by
 refine E_fn Try.func161 rfl (Nat.le_of_ble_eq_true rfl) ?_
 refine E_G (n:=4) rfl ?_
 refine G_seq ?_
 refine G_region' (L:=[0]) rfl ?_
 refine x_alloc rfl rfl rfl rfl za_27 ?_
 refine EOps_nil ?_
 refine G_seq ?_
 refine g_tidy_A137_3 [0,2] ?_
 refine G_region' (L:=[0,1,2,3,4]) rfl ?_
 refine xmv ?_
 refine EOps_go rfl rfl (xe2 rfl rfl rfl ca_120 (c_spec_l2Values_fv l i h 14 hb hi (by decide)) ?_)
 rintro r S ⟨xs,i1,h1,⟨rfl,rfl⟩,hi1,hxs⟩
 refine x_call rfl rfl rfl rfl rfl ca_124 (c_spec_NewCracker xs (by omega)) ?_
 rintro r S ⟨rfl,rfl⟩
 have hY0:=newCrk_small xs
 generalize newCrk xs=Y0 at *
 refine x_alloc rfl rfl rfl rfl za_27 ?_
 refine EOps_go rfl rfl (EOp_store rfl rfl rfl (xb1 ty_27) ?_)
 refine EOps_nil ?_
 refine G_seq ?_
 refine G_seq ?_
 refine G_drop [0,2,3] [4,6,7,8,9] rfl rfl rfl ?_
 refine g_tidy_A137_3 [0,2,3] ?_
 refine G_region' (L:=[0,1,2]) rfl ?_
 refine xmv ?_
 refine EOps_go rfl rfl (xe2 rfl rfl rfl ca_114 (c_spec_l1Below l i1 h1 5 _ hb hi1 (by decide)) ?_)
 rintro r S ⟨x2,i2,h2,⟨rfl,rfl⟩,hi2,hx2⟩
 obtain⟨k,rfl⟩:∃ k:Nat,x2=(k:Int):=⟨x2.toNat,by omega⟩
 have hk1:=hx2.2.1 (by omega)
 refine xas ?_
 refine EOps_nil ?_
 refine G_block ?_
 refine g_forD_A137_4 (α:=Nat × Crk × Int × Int) [0,2,3] (fun (n,Y,i3,h3)=>[(4,.c (.sc (.int .i64 ((n:Int))))),(5,.any),(6,.any),(7,.any)]) (fun (n,Y,i3,h3)=>[.box (curC l i3 h3),.box [.sc (.slice none 0 0),.sc (.slice none 0 0),.sc (.slice none 0 0)],.box [.sc (.slice none 0 0),.sc (.slice none 0 0)],.box [.sc (.slice none 0 0),.sc (.slice none 0 0),.sc (.slice none 0 0)],.box [.sc (.slice none 0 0),.sc (.slice none 0 0),.sc (.slice none 0 0)],.row 3 1 (ints Y.vals),.row 3 1 (ints Y.rows),.row 129 2 (pairs Y.piv),.box (crkO 5 Y)]) (fun (n,Y,i3,h3)=>Y.vals.length≤14∧Y.rows.length≤14∧Y.piv.length+n≤4∧curOk l i3) (fun (n,Y,i3,h3)=>n) ((k,Y0,i2,h2)) ?_ (rfl) ⟨.inr rfl,.inl rfl,.inl rfl,.inl rfl,trivial⟩ ?_
 ·exact⟨by omega,by omega,by omega,hi2⟩
 rintro⟨n,Y,i3,h3⟩ ⟨hyv,hyr,hyp,hi3⟩
 dsimp only at *
 refine G_seq ?_
 refine G_seq ?_
 refine G_region' (L:=[0,1]) rfl ?_
 refine xmv ?_
 refine x_pure rfl rfl rfl (L_bin rfl rfl rfl rfl) ?_
 refine EOps_nil ?_
 refine G_cond rfl (fun hc14=>?_) (fun hc14=>?_)
 ·have hn1 : 0 < n := by simp at hc14; omega
  refine G_skip ?_
  refine G_seq ?_
  refine G_block ?_
  refine g_seqD_A137_5 (α:=Int × Int × Int) [0,2,3,4,14] (fun (v,i4,h4)=>[(5,.c (.bp 12 0)),(6,.any),(7,.any)]) (fun (v,i4,h4)=>[.box (curC l i4 h4),.box [.sc (.slice none 0 0),.sc (.slice none 0 0),.sc (.slice none 0 0)],.box [.sc (.slice none 0 0),.sc (.slice none 0 0)],.box [.sc (.slice none 0 0),.sc (.slice none 0 0),.sc (.slice none 0 0)],.box [.sc (.slice none 0 0),.sc (.slice none 0 0),.sc (.slice none 0 0)],.row 3 1 (ints Y.vals),.row 3 1 (ints Y.rows),.row 129 2 (pairs Y.piv),.box (crkO 5 Y),.row 3 1 (ints (crkAtC Y v).vals),.row 3 1 (ints (crkAtC Y v).rows),.row 129 2 (pairs (crkAtC Y v).piv),.box (crkO 9 (crkAtC Y v))]) (fun (v,i4,h4)=>curOk l i4) ?_ ?_
  ·refine g_tidy_A137_3 [0, 2, 3, 4, 5, 14] ?_
   refine G_drawU mixed ?_
   refine u_pure 1 rfl rfl rfl (L_move rfl) ?_
   refine u_any 0 [2,9] ⟨?_,?_,?_,trivial⟩
   ·refine u_op 0 rfl rfl (EOp_light rfl (by decide) (L_load rfl (xb2 ty_27)) ?_)
    refine u_any 2 [9] ⟨?_,?_,trivial⟩
    ·refine u_op 2 rfl rfl (EOp_light rfl (by decide) (L_load rfl (xb2 ty_27)) ?_)
     refine u_any 3 [9] ⟨?_,?_,trivial⟩
     ·first
       | (refine u_op 3 rfl rfl (xe2 rfl rfl rfl ca_76 (c_spec_l4Value_fw l i3 h3 Y hb hi3 (by omega)) ?_))
       | (refine u_op 3 rfl rfl (xe2 rfl rfl rfl ca_76 (c_spec_l4Value_fwx l i3 h3 Y hb hi3 (by omega)) ?_))
      rintro r S ⟨v,i4,h4,⟨rfl,rfl⟩,hi4⟩
      refine u_any 4 [9] ⟨?_,?_,trivial⟩
      ·refine u_call 4 rfl rfl rfl rfl rfl ca_15 (c_spec_CrackAt Y v (by omega)) ?_
       rintro r S ⟨rfl,rfl⟩
       refine u_pure 5 rfl rfl rfl (L_move rfl) ?_
       refine u_pure 6 rfl rfl rfl (L_extract rfl rfl) ?_
       refine u_pure 7 rfl rfl rfl (L_extract rfl rfl) ?_
       refine u_pure 8 rfl rfl rfl (L_extract rfl rfl) ?_
       refine u_any 9 [] ⟨?_,trivial⟩
       refine u_op 9 rfl rfl (EOp_alloc rfl rfl (by decide) za_27 ?_)
       refine u_any 10 [] ⟨?_,trivial⟩
       refine u_op 10 rfl rfl (EOp_store rfl rfl rfl (xb1 ty_27) ?_)
       refine u_pure 11 rfl rfl rfl (L_assign rfl) ?_
       refine u_pure 12 rfl rfl rfl (L_assign rfl) ?_
       refine u_done ?_
       skip
       first
        | (refine⟨[4,5,6,7,8,9,10,11,13],rfl,(v,i4,h4),?_,rfl,⟨.inr rfl,.inl rfl,.inl rfl,trivial⟩,⟨.inr rfl,.inr rfl,.inr rfl,.inr rfl,.inr rfl,trivial⟩⟩)
        | (refine⟨[4,5,6,7,8,10,11,12,9],rfl,(v,i4,h4),?_,rfl,⟨.inr rfl,.inl rfl,.inl rfl,trivial⟩,⟨.inr rfl,.inr rfl,.inr rfl,.inr rfl,.inr rfl,trivial⟩⟩)
       exact hi4
      ·refine u_op 9 rfl rfl (EOp_alloc rfl rfl (by decide) za_27 ?_)
       refine u_any 4 [] ⟨?_,trivial⟩
       refine u_call 4 rfl rfl rfl rfl rfl ca_15 (c_spec_CrackAt Y v (by omega)) ?_
       rintro r S ⟨rfl,rfl⟩
       refine u_pure 5 rfl rfl rfl (L_move rfl) ?_
       refine u_pure 6 rfl rfl rfl (L_extract rfl rfl) ?_
       refine u_pure 7 rfl rfl rfl (L_extract rfl rfl) ?_
       refine u_pure 8 rfl rfl rfl (L_extract rfl rfl) ?_
       refine u_any 10 [] ⟨?_,trivial⟩
       refine u_op 10 rfl rfl (EOp_store rfl rfl rfl (xb1 ty_27) ?_)
       refine u_pure 11 rfl rfl rfl (L_assign rfl) ?_
       refine u_pure 12 rfl rfl rfl (L_assign rfl) ?_
       refine u_done ?_
       skip
       first
        | (refine⟨[4,5,6,7,8,9,10,11,13],rfl,(v,i4,h4),?_,rfl,⟨.inr rfl,.inl rfl,.inl rfl,trivial⟩,⟨.inr rfl,.inr rfl,.inr rfl,.inr rfl,.inr rfl,trivial⟩⟩)
        | (refine⟨[4,5,6,7,8,10,11,12,9],rfl,(v,i4,h4),?_,rfl,⟨.inr rfl,.inl rfl,.inl rfl,trivial⟩,⟨.inr rfl,.inr rfl,.inr rfl,.inr rfl,.inr rfl,trivial⟩⟩)
       exact hi4
     ·refine u_op 9 rfl rfl (EOp_alloc rfl rfl (by decide) za_27 ?_)
      refine u_any 3 [] ⟨?_,trivial⟩
      first
       | (refine u_op 3 rfl rfl (xe2 rfl rfl rfl ca_76 (c_spec_l4Value_fw l i3 h3 Y hb hi3 (by omega)) ?_))
       | (refine u_op 3 rfl rfl (xe2 rfl rfl rfl ca_76 (c_spec_l4Value_fwx l i3 h3 Y hb hi3 (by omega)) ?_))
      rintro r S ⟨v,i4,h4,⟨rfl,rfl⟩,hi4⟩
      refine u_any 4 [] ⟨?_,trivial⟩
      refine u_call 4 rfl rfl rfl rfl rfl ca_15 (c_spec_CrackAt Y v (by omega)) ?_
      rintro r S ⟨rfl,rfl⟩
      refine u_pure 5 rfl rfl rfl (L_move rfl) ?_
      refine u_pure 6 rfl rfl rfl (L_extract rfl rfl) ?_
      refine u_pure 7 rfl rfl rfl (L_extract rfl rfl) ?_
      refine u_pure 8 rfl rfl rfl (L_extract rfl rfl) ?_
      refine u_any 10 [] ⟨?_,trivial⟩
      refine u_op 10 rfl rfl (EOp_store rfl rfl rfl (xb1 ty_27) ?_)
      refine u_pure 11 rfl rfl rfl (L_assign rfl) ?_
      refine u_pure 12 rfl rfl rfl (L_assign rfl) ?_
      refine u_done ?_
      skip
      first
       | (refine⟨[4,5,6,7,8,9,10,11,13],rfl,(v,i4,h4),?_,rfl,⟨.inr rfl,.inl rfl,.inl rfl,trivial⟩,⟨.inr rfl,.inr rfl,.inr rfl,.inr rfl,.inr rfl,trivial⟩⟩)
       | (refine⟨[4,5,6,7,8,10,11,12,9],rfl,(v,i4,h4),?_,rfl,⟨.inr rfl,.inl rfl,.inl rfl,trivial⟩,⟨.inr rfl,.inr rfl,.inr rfl,.inr rfl,.inr rfl,trivial⟩⟩)
      exact hi4
    ·refine u_op 9 rfl rfl (EOp_alloc rfl rfl (by decide) za_27 ?_)
     refine u_any 2 [] ⟨?_,trivial⟩
     refine u_op 2 rfl rfl (EOp_light rfl (by decide) (L_load rfl (xb0 ty_27)) ?_)
     refine u_any 3 [] ⟨?_,trivial⟩
     first
      | (refine u_op 3 rfl rfl (xe2 rfl rfl rfl ca_76 (c_spec_l4Value_fw l i3 h3 Y hb hi3 (by omega)) ?_))
      | (refine u_op 3 rfl rfl (xe2 rfl rfl rfl ca_76 (c_spec_l4Value_fwx l i3 h3 Y hb hi3 (by omega)) ?_))
     rintro r S ⟨v,i4,h4,⟨rfl,rfl⟩,hi4⟩
     refine u_any 4 [] ⟨?_,trivial⟩
     refine u_call 4 rfl rfl rfl rfl rfl ca_15 (c_spec_CrackAt Y v (by omega)) ?_
     rintro r S ⟨rfl,rfl⟩
     refine u_pure 5 rfl rfl rfl (L_move rfl) ?_
     refine u_pure 6 rfl rfl rfl (L_extract rfl rfl) ?_
     refine u_pure 7 rfl rfl rfl (L_extract rfl rfl) ?_
     refine u_pure 8 rfl rfl rfl (L_extract rfl rfl) ?_
     refine u_any 10 [] ⟨?_,trivial⟩
     refine u_op 10 rfl rfl (EOp_store rfl rfl rfl (xb1 ty_27) ?_)
     refine u_pure 11 rfl rfl rfl (L_assign rfl) ?_
     refine u_pure 12 rfl rfl rfl (L_assign rfl) ?_
     refine u_done ?_
     skip
     first
      | (refine⟨[4,5,6,7,8,9,10,11,13],rfl,(v,i4,h4),?_,rfl,⟨.inr rfl,.inl rfl,.inl rfl,trivial⟩,⟨.inr rfl,.inr rfl,.inr rfl,.inr rfl,.inr rfl,trivial⟩⟩)
      | (refine⟨[4,5,6,7,8,10,11,12,9],rfl,(v,i4,h4),?_,rfl,⟨.inr rfl,.inl rfl,.inl rfl,trivial⟩,⟨.inr rfl,.inr rfl,.inr rfl,.inr rfl,.inr rfl,trivial⟩⟩)
     exact hi4
   ·refine u_op 2 rfl rfl (EOp_light rfl (by decide) (L_load rfl (xb2 ty_27)) ?_)
    refine u_any 0 [3,9] ⟨?_,?_,?_,trivial⟩
    ·refine u_op 0 rfl rfl (EOp_light rfl (by decide) (L_load rfl (xb2 ty_27)) ?_)
     refine u_any 3 [9] ⟨?_,?_,trivial⟩
     ·first
       | (refine u_op 3 rfl rfl (xe2 rfl rfl rfl ca_76 (c_spec_l4Value_fw l i3 h3 Y hb hi3 (by omega)) ?_))
       | (refine u_op 3 rfl rfl (xe2 rfl rfl rfl ca_76 (c_spec_l4Value_fwx l i3 h3 Y hb hi3 (by omega)) ?_))
      rintro r S ⟨v,i4,h4,⟨rfl,rfl⟩,hi4⟩
      refine u_any 4 [9] ⟨?_,?_,trivial⟩
      ·refine u_call 4 rfl rfl rfl rfl rfl ca_15 (c_spec_CrackAt Y v (by omega)) ?_
       rintro r S ⟨rfl,rfl⟩
       refine u_pure 5 rfl rfl rfl (L_move rfl) ?_
       refine u_pure 6 rfl rfl rfl (L_extract rfl rfl) ?_
       refine u_pure 7 rfl rfl rfl (L_extract rfl rfl) ?_
       refine u_pure 8 rfl rfl rfl (L_extract rfl rfl) ?_
       refine u_any 9 [] ⟨?_,trivial⟩
       refine u_op 9 rfl rfl (EOp_alloc rfl rfl (by decide) za_27 ?_)
       refine u_any 10 [] ⟨?_,trivial⟩
       refine u_op 10 rfl rfl (EOp_store rfl rfl rfl (xb1 ty_27) ?_)
       refine u_pure 11 rfl rfl rfl (L_assign rfl) ?_
       refine u_pure 12 rfl rfl rfl (L_assign rfl) ?_
       refine u_done ?_
       skip
       first
        | (refine⟨[4,5,6,7,8,9,10,11,13],rfl,(v,i4,h4),?_,rfl,⟨.inr rfl,.inl rfl,.inl rfl,trivial⟩,⟨.inr rfl,.inr rfl,.inr rfl,.inr rfl,.inr rfl,trivial⟩⟩)
        | (refine⟨[4,5,6,7,8,10,11,12,9],rfl,(v,i4,h4),?_,rfl,⟨.inr rfl,.inl rfl,.inl rfl,trivial⟩,⟨.inr rfl,.inr rfl,.inr rfl,.inr rfl,.inr rfl,trivial⟩⟩)
       exact hi4
      ·refine u_op 9 rfl rfl (EOp_alloc rfl rfl (by decide) za_27 ?_)
       refine u_any 4 [] ⟨?_,trivial⟩
       refine u_call 4 rfl rfl rfl rfl rfl ca_15 (c_spec_CrackAt Y v (by omega)) ?_
       rintro r S ⟨rfl,rfl⟩
       refine u_pure 5 rfl rfl rfl (L_move rfl) ?_
       refine u_pure 6 rfl rfl rfl (L_extract rfl rfl) ?_
       refine u_pure 7 rfl rfl rfl (L_extract rfl rfl) ?_
       refine u_pure 8 rfl rfl rfl (L_extract rfl rfl) ?_
       refine u_any 10 [] ⟨?_,trivial⟩
       refine u_op 10 rfl rfl (EOp_store rfl rfl rfl (xb1 ty_27) ?_)
       refine u_pure 11 rfl rfl rfl (L_assign rfl) ?_
       refine u_pure 12 rfl rfl rfl (L_assign rfl) ?_
       refine u_done ?_
       skip
       first
        | (refine⟨[4,5,6,7,8,9,10,11,13],rfl,(v,i4,h4),?_,rfl,⟨.inr rfl,.inl rfl,.inl rfl,trivial⟩,⟨.inr rfl,.inr rfl,.inr rfl,.inr rfl,.inr rfl,trivial⟩⟩)
        | (refine⟨[4,5,6,7,8,10,11,12,9],rfl,(v,i4,h4),?_,rfl,⟨.inr rfl,.inl rfl,.inl rfl,trivial⟩,⟨.inr rfl,.inr rfl,.inr rfl,.inr rfl,.inr rfl,trivial⟩⟩)
       exact hi4
     ·refine u_op 9 rfl rfl (EOp_alloc rfl rfl (by decide) za_27 ?_)
      refine u_any 3 [] ⟨?_,trivial⟩
      first
       | (refine u_op 3 rfl rfl (xe2 rfl rfl rfl ca_76 (c_spec_l4Value_fw l i3 h3 Y hb hi3 (by omega)) ?_))
       | (refine u_op 3 rfl rfl (xe2 rfl rfl rfl ca_76 (c_spec_l4Value_fwx l i3 h3 Y hb hi3 (by omega)) ?_))
      rintro r S ⟨v,i4,h4,⟨rfl,rfl⟩,hi4⟩
      refine u_any 4 [] ⟨?_,trivial⟩
      refine u_call 4 rfl rfl rfl rfl rfl ca_15 (c_spec_CrackAt Y v (by omega)) ?_
      rintro r S ⟨rfl,rfl⟩
      refine u_pure 5 rfl rfl rfl (L_move rfl) ?_
      refine u_pure 6 rfl rfl rfl (L_extract rfl rfl) ?_
      refine u_pure 7 rfl rfl rfl (L_extract rfl rfl) ?_
      refine u_pure 8 rfl rfl rfl (L_extract rfl rfl) ?_
      refine u_any 10 [] ⟨?_,trivial⟩
      refine u_op 10 rfl rfl (EOp_store rfl rfl rfl (xb1 ty_27) ?_)
      refine u_pure 11 rfl rfl rfl (L_assign rfl) ?_
      refine u_pure 12 rfl rfl rfl (L_assign rfl) ?_
      refine u_done ?_
      skip
      first
       | (refine⟨[4,5,6,7,8,9,10,11,13],rfl,(v,i4,h4),?_,rfl,⟨.inr rfl,.inl rfl,.inl rfl,trivial⟩,⟨.inr rfl,.inr rfl,.inr rfl,.inr rfl,.inr rfl,trivial⟩⟩)
       | (refine⟨[4,5,6,7,8,10,11,12,9],rfl,(v,i4,h4),?_,rfl,⟨.inr rfl,.inl rfl,.inl rfl,trivial⟩,⟨.inr rfl,.inr rfl,.inr rfl,.inr rfl,.inr rfl,trivial⟩⟩)
      exact hi4
    ·first
      | (refine u_op 3 rfl rfl (xe2 rfl rfl rfl ca_76 (c_spec_l4Value_fw l i3 h3 Y hb hi3 (by omega)) ?_))
      | (refine u_op 3 rfl rfl (xe2 rfl rfl rfl ca_76 (c_spec_l4Value_fwx l i3 h3 Y hb hi3 (by omega)) ?_))
     rintro r S ⟨v,i4,h4,⟨rfl,rfl⟩,hi4⟩
     refine u_any 0 [9] ⟨?_,?_,trivial⟩
     ·refine u_op 0 rfl rfl (EOp_light rfl (by decide) (L_load rfl (xb2 ty_27)) ?_)
      refine u_any 4 [9] ⟨?_,?_,trivial⟩
      ·refine u_call 4 rfl rfl rfl rfl rfl ca_15 (c_spec_CrackAt Y v (by omega)) ?_
       rintro r S ⟨rfl,rfl⟩
       refine u_pure 5 rfl rfl rfl (L_move rfl) ?_
       refine u_pure 6 rfl rfl rfl (L_extract rfl rfl) ?_
       refine u_pure 7 rfl rfl rfl (L_extract rfl rfl) ?_
       refine u_pure 8 rfl rfl rfl (L_extract rfl rfl) ?_
       refine u_any 9 [] ⟨?_,trivial⟩
       refine u_op 9 rfl rfl (EOp_alloc rfl rfl (by decide) za_27 ?_)
       refine u_any 10 [] ⟨?_,trivial⟩
       refine u_op 10 rfl rfl (EOp_store rfl rfl rfl (xb1 ty_27) ?_)
       refine u_pure 11 rfl rfl rfl (L_assign rfl) ?_
       refine u_pure 12 rfl rfl rfl (L_assign rfl) ?_
       refine u_done ?_
       skip
       first
        | (refine⟨[4,5,6,7,8,9,10,11,13],rfl,(v,i4,h4),?_,rfl,⟨.inr rfl,.inl rfl,.inl rfl,trivial⟩,⟨.inr rfl,.inr rfl,.inr rfl,.inr rfl,.inr rfl,trivial⟩⟩)
        | (refine⟨[4,5,6,7,8,10,11,12,9],rfl,(v,i4,h4),?_,rfl,⟨.inr rfl,.inl rfl,.inl rfl,trivial⟩,⟨.inr rfl,.inr rfl,.inr rfl,.inr rfl,.inr rfl,trivial⟩⟩)
       exact hi4
      ·refine u_op 9 rfl rfl (EOp_alloc rfl rfl (by decide) za_27 ?_)
       refine u_any 4 [] ⟨?_,trivial⟩
       refine u_call 4 rfl rfl rfl rfl rfl ca_15 (c_spec_CrackAt Y v (by omega)) ?_
       rintro r S ⟨rfl,rfl⟩
       refine u_pure 5 rfl rfl rfl (L_move rfl) ?_
       refine u_pure 6 rfl rfl rfl (L_extract rfl rfl) ?_
       refine u_pure 7 rfl rfl rfl (L_extract rfl rfl) ?_
       refine u_pure 8 rfl rfl rfl (L_extract rfl rfl) ?_
       refine u_any 10 [] ⟨?_,trivial⟩
       refine u_op 10 rfl rfl (EOp_store rfl rfl rfl (xb1 ty_27) ?_)
       refine u_pure 11 rfl rfl rfl (L_assign rfl) ?_
       refine u_pure 12 rfl rfl rfl (L_assign rfl) ?_
       refine u_done ?_
       skip
       first
        | (refine⟨[4,5,6,7,8,9,10,11,13],rfl,(v,i4,h4),?_,rfl,⟨.inr rfl,.inl rfl,.inl rfl,trivial⟩,⟨.inr rfl,.inr rfl,.inr rfl,.inr rfl,.inr rfl,trivial⟩⟩)
        | (refine⟨[4,5,6,7,8,10,11,12,9],rfl,(v,i4,h4),?_,rfl,⟨.inr rfl,.inl rfl,.inl rfl,trivial⟩,⟨.inr rfl,.inr rfl,.inr rfl,.inr rfl,.inr rfl,trivial⟩⟩)
       exact hi4
     ·refine u_op 9 rfl rfl (EOp_alloc rfl rfl (by decide) za_27 ?_)
      refine u_any 0 [] ⟨?_,trivial⟩
      refine u_op 0 rfl rfl (EOp_light rfl (by decide) (L_load rfl (xb0 ty_27)) ?_)
      refine u_any 4 [] ⟨?_,trivial⟩
      refine u_call 4 rfl rfl rfl rfl rfl ca_15 (c_spec_CrackAt Y v (by omega)) ?_
      rintro r S ⟨rfl,rfl⟩
      refine u_pure 5 rfl rfl rfl (L_move rfl) ?_
      refine u_pure 6 rfl rfl rfl (L_extract rfl rfl) ?_
      refine u_pure 7 rfl rfl rfl (L_extract rfl rfl) ?_
      refine u_pure 8 rfl rfl rfl (L_extract rfl rfl) ?_
      refine u_any 10 [] ⟨?_,trivial⟩
      refine u_op 10 rfl rfl (EOp_store rfl rfl rfl (xb1 ty_27) ?_)
      refine u_pure 11 rfl rfl rfl (L_assign rfl) ?_
      refine u_pure 12 rfl rfl rfl (L_assign rfl) ?_
      refine u_done ?_
      skip
      first
       | (refine⟨[4,5,6,7,8,9,10,11,13],rfl,(v,i4,h4),?_,rfl,⟨.inr rfl,.inl rfl,.inl rfl,trivial⟩,⟨.inr rfl,.inr rfl,.inr rfl,.inr rfl,.inr rfl,trivial⟩⟩)
       | (refine⟨[4,5,6,7,8,10,11,12,9],rfl,(v,i4,h4),?_,rfl,⟨.inr rfl,.inl rfl,.inl rfl,trivial⟩,⟨.inr rfl,.inr rfl,.inr rfl,.inr rfl,.inr rfl,trivial⟩⟩)
      exact hi4
    ·refine u_op 9 rfl rfl (EOp_alloc rfl rfl (by decide) za_27 ?_)
     refine u_any 0 [3] ⟨?_,?_,trivial⟩
     ·refine u_op 0 rfl rfl (EOp_light rfl (by decide) (L_load rfl (xb2 ty_27)) ?_)
      refine u_any 3 [] ⟨?_,trivial⟩
      first
       | (refine u_op 3 rfl rfl (xe2 rfl rfl rfl ca_76 (c_spec_l4Value_fw l i3 h3 Y hb hi3 (by omega)) ?_))
       | (refine u_op 3 rfl rfl (xe2 rfl rfl rfl ca_76 (c_spec_l4Value_fwx l i3 h3 Y hb hi3 (by omega)) ?_))
      rintro r S ⟨v,i4,h4,⟨rfl,rfl⟩,hi4⟩
      refine u_any 4 [] ⟨?_,trivial⟩
      refine u_call 4 rfl rfl rfl rfl rfl ca_15 (c_spec_CrackAt Y v (by omega)) ?_
      rintro r S ⟨rfl,rfl⟩
      refine u_pure 5 rfl rfl rfl (L_move rfl) ?_
      refine u_pure 6 rfl rfl rfl (L_extract rfl rfl) ?_
      refine u_pure 7 rfl rfl rfl (L_extract rfl rfl) ?_
      refine u_pure 8 rfl rfl rfl (L_extract rfl rfl) ?_
      refine u_any 10 [] ⟨?_,trivial⟩
      refine u_op 10 rfl rfl (EOp_store rfl rfl rfl (xb1 ty_27) ?_)
      refine u_pure 11 rfl rfl rfl (L_assign rfl) ?_
      refine u_pure 12 rfl rfl rfl (L_assign rfl) ?_
      refine u_done ?_
      skip
      first
       | (refine⟨[4,5,6,7,8,9,10,11,13],rfl,(v,i4,h4),?_,rfl,⟨.inr rfl,.inl rfl,.inl rfl,trivial⟩,⟨.inr rfl,.inr rfl,.inr rfl,.inr rfl,.inr rfl,trivial⟩⟩)
       | (refine⟨[4,5,6,7,8,10,11,12,9],rfl,(v,i4,h4),?_,rfl,⟨.inr rfl,.inl rfl,.inl rfl,trivial⟩,⟨.inr rfl,.inr rfl,.inr rfl,.inr rfl,.inr rfl,trivial⟩⟩)
      exact hi4
     ·first
       | (refine u_op 3 rfl rfl (xe2 rfl rfl rfl ca_76 (c_spec_l4Value_fw l i3 h3 Y hb hi3 (by omega)) ?_))
       | (refine u_op 3 rfl rfl (xe2 rfl rfl rfl ca_76 (c_spec_l4Value_fwx l i3 h3 Y hb hi3 (by omega)) ?_))
      rintro r S ⟨v,i4,h4,⟨rfl,rfl⟩,hi4⟩
      refine u_any 0 [] ⟨?_,trivial⟩
      refine u_op 0 rfl rfl (EOp_light rfl (by decide) (L_load rfl (xb0 ty_27)) ?_)
      refine u_any 4 [] ⟨?_,trivial⟩
      refine u_call 4 rfl rfl rfl rfl rfl ca_15 (c_spec_CrackAt Y v (by omega)) ?_
      rintro r S ⟨rfl,rfl⟩
      refine u_pure 5 rfl rfl rfl (L_move rfl) ?_
      refine u_pure 6 rfl rfl rfl (L_extract rfl rfl) ?_
      refine u_pure 7 rfl rfl rfl (L_extract rfl rfl) ?_
      refine u_pure 8 rfl rfl rfl (L_extract rfl rfl) ?_
      refine u_any 10 [] ⟨?_,trivial⟩
      refine u_op 10 rfl rfl (EOp_store rfl rfl rfl (xb1 ty_27) ?_)
      refine u_pure 11 rfl rfl rfl (L_assign rfl) ?_
      refine u_pure 12 rfl rfl rfl (L_assign rfl) ?_
      refine u_done ?_
      skip
      first
       | (refine⟨[4,5,6,7,8,9,10,11,13],rfl,(v,i4,h4),?_,rfl,⟨.inr rfl,.inl rfl,.inl rfl,trivial⟩,⟨.inr rfl,.inr rfl,.inr rfl,.inr rfl,.inr rfl,trivial⟩⟩)
       | (refine⟨[4,5,6,7,8,10,11,12,9],rfl,(v,i4,h4),?_,rfl,⟨.inr rfl,.inl rfl,.inl rfl,trivial⟩,⟨.inr rfl,.inr rfl,.inr rfl,.inr rfl,.inr rfl,trivial⟩⟩)
      exact hi4
   ·refine u_op 9 rfl rfl (EOp_alloc rfl rfl (by decide) za_27 ?_)
    refine u_any 0 [2] ⟨?_,?_,trivial⟩
    ·refine u_op 0 rfl rfl (EOp_light rfl (by decide) (L_load rfl (xb2 ty_27)) ?_)
     refine u_any 2 [] ⟨?_,trivial⟩
     refine u_op 2 rfl rfl (EOp_light rfl (by decide) (L_load rfl (xb0 ty_27)) ?_)
     refine u_any 3 [] ⟨?_,trivial⟩
     first
      | (refine u_op 3 rfl rfl (xe2 rfl rfl rfl ca_76 (c_spec_l4Value_fw l i3 h3 Y hb hi3 (by omega)) ?_))
      | (refine u_op 3 rfl rfl (xe2 rfl rfl rfl ca_76 (c_spec_l4Value_fwx l i3 h3 Y hb hi3 (by omega)) ?_))
     rintro r S ⟨v,i4,h4,⟨rfl,rfl⟩,hi4⟩
     refine u_any 4 [] ⟨?_,trivial⟩
     refine u_call 4 rfl rfl rfl rfl rfl ca_15 (c_spec_CrackAt Y v (by omega)) ?_
     rintro r S ⟨rfl,rfl⟩
     refine u_pure 5 rfl rfl rfl (L_move rfl) ?_
     refine u_pure 6 rfl rfl rfl (L_extract rfl rfl) ?_
     refine u_pure 7 rfl rfl rfl (L_extract rfl rfl) ?_
     refine u_pure 8 rfl rfl rfl (L_extract rfl rfl) ?_
     refine u_any 10 [] ⟨?_,trivial⟩
     refine u_op 10 rfl rfl (EOp_store rfl rfl rfl (xb1 ty_27) ?_)
     refine u_pure 11 rfl rfl rfl (L_assign rfl) ?_
     refine u_pure 12 rfl rfl rfl (L_assign rfl) ?_
     refine u_done ?_
     skip
     first
      | (refine⟨[4,5,6,7,8,9,10,11,13],rfl,(v,i4,h4),?_,rfl,⟨.inr rfl,.inl rfl,.inl rfl,trivial⟩,⟨.inr rfl,.inr rfl,.inr rfl,.inr rfl,.inr rfl,trivial⟩⟩)
      | (refine⟨[4,5,6,7,8,10,11,12,9],rfl,(v,i4,h4),?_,rfl,⟨.inr rfl,.inl rfl,.inl rfl,trivial⟩,⟨.inr rfl,.inr rfl,.inr rfl,.inr rfl,.inr rfl,trivial⟩⟩)
     exact hi4
    ·refine u_op 2 rfl rfl (EOp_light rfl (by decide) (L_load rfl (xb2 ty_27)) ?_)
     refine u_any 0 [3] ⟨?_,?_,trivial⟩
     ·refine u_op 0 rfl rfl (EOp_light rfl (by decide) (L_load rfl (xb2 ty_27)) ?_)
      refine u_any 3 [] ⟨?_,trivial⟩
      first
       | (refine u_op 3 rfl rfl (xe2 rfl rfl rfl ca_76 (c_spec_l4Value_fw l i3 h3 Y hb hi3 (by omega)) ?_))
       | (refine u_op 3 rfl rfl (xe2 rfl rfl rfl ca_76 (c_spec_l4Value_fwx l i3 h3 Y hb hi3 (by omega)) ?_))
      rintro r S ⟨v,i4,h4,⟨rfl,rfl⟩,hi4⟩
      refine u_any 4 [] ⟨?_,trivial⟩
      refine u_call 4 rfl rfl rfl rfl rfl ca_15 (c_spec_CrackAt Y v (by omega)) ?_
      rintro r S ⟨rfl,rfl⟩
      refine u_pure 5 rfl rfl rfl (L_move rfl) ?_
      refine u_pure 6 rfl rfl rfl (L_extract rfl rfl) ?_
      refine u_pure 7 rfl rfl rfl (L_extract rfl rfl) ?_
      refine u_pure 8 rfl rfl rfl (L_extract rfl rfl) ?_
      refine u_any 10 [] ⟨?_,trivial⟩
      refine u_op 10 rfl rfl (EOp_store rfl rfl rfl (xb1 ty_27) ?_)
      refine u_pure 11 rfl rfl rfl (L_assign rfl) ?_
      refine u_pure 12 rfl rfl rfl (L_assign rfl) ?_
      refine u_done ?_
      skip
      first
       | (refine⟨[4,5,6,7,8,9,10,11,13],rfl,(v,i4,h4),?_,rfl,⟨.inr rfl,.inl rfl,.inl rfl,trivial⟩,⟨.inr rfl,.inr rfl,.inr rfl,.inr rfl,.inr rfl,trivial⟩⟩)
       | (refine⟨[4,5,6,7,8,10,11,12,9],rfl,(v,i4,h4),?_,rfl,⟨.inr rfl,.inl rfl,.inl rfl,trivial⟩,⟨.inr rfl,.inr rfl,.inr rfl,.inr rfl,.inr rfl,trivial⟩⟩)
      exact hi4
     ·first
       | (refine u_op 3 rfl rfl (xe2 rfl rfl rfl ca_76 (c_spec_l4Value_fw l i3 h3 Y hb hi3 (by omega)) ?_))
       | (refine u_op 3 rfl rfl (xe2 rfl rfl rfl ca_76 (c_spec_l4Value_fwx l i3 h3 Y hb hi3 (by omega)) ?_))
      rintro r S ⟨v,i4,h4,⟨rfl,rfl⟩,hi4⟩
      refine u_any 0 [] ⟨?_,trivial⟩
      refine u_op 0 rfl rfl (EOp_light rfl (by decide) (L_load rfl (xb0 ty_27)) ?_)
      refine u_any 4 [] ⟨?_,trivial⟩
      refine u_call 4 rfl rfl rfl rfl rfl ca_15 (c_spec_CrackAt Y v (by omega)) ?_
      rintro r S ⟨rfl,rfl⟩
      refine u_pure 5 rfl rfl rfl (L_move rfl) ?_
      refine u_pure 6 rfl rfl rfl (L_extract rfl rfl) ?_
      refine u_pure 7 rfl rfl rfl (L_extract rfl rfl) ?_
      refine u_pure 8 rfl rfl rfl (L_extract rfl rfl) ?_
      refine u_any 10 [] ⟨?_,trivial⟩
      refine u_op 10 rfl rfl (EOp_store rfl rfl rfl (xb1 ty_27) ?_)
      refine u_pure 11 rfl rfl rfl (L_assign rfl) ?_
      refine u_pure 12 rfl rfl rfl (L_assign rfl) ?_
      refine u_done ?_
      skip
      first
       | (refine⟨[4,5,6,7,8,9,10,11,13],rfl,(v,i4,h4),?_,rfl,⟨.inr rfl,.inl rfl,.inl rfl,trivial⟩,⟨.inr rfl,.inr rfl,.inr rfl,.inr rfl,.inr rfl,trivial⟩⟩)
       | (refine⟨[4,5,6,7,8,10,11,12,9],rfl,(v,i4,h4),?_,rfl,⟨.inr rfl,.inl rfl,.inl rfl,trivial⟩,⟨.inr rfl,.inr rfl,.inr rfl,.inr rfl,.inr rfl,trivial⟩⟩)
      exact hi4
  rintro⟨v,i4,h4⟩ hi4
  refine G_region' (L:=[0,1]) rfl ?_
  refine x_light rfl rfl rfl (L_load rfl (xb0 ty_27)) ?_
  refine EOps_go rfl rfl (EOp_store rfl rfl rfl (xb1 ty_27) ?_)
  refine EOps_nil ?_
  refine G_region' (L:=[0,1,2]) rfl ?_
  refine xmv ?_
  refine x_pure rfl rfl rfl xb4 ?_
  refine xas ?_
  refine EOps_nil ?_
  refine⟨[4,9,10,11,8],rfl,(n - 1,crkAtC Y v,i4,h4),?_,?_,rfl,⟨.inr (int_eq (by first|omega|(dsimp only;omega))),.inl rfl,.inl rfl,.inl rfl,trivial⟩,⟨.inr rfl,.inr rfl,.inr rfl,trivial⟩⟩
  ·dsimp only;omega
  ·exact⟨by have:=crkAtC_small Y v;dsimp only;omega,by have:=crkAtC_small Y v;dsimp only;omega,by have:=crkAtC_small Y v;dsimp only;omega,hi4⟩
 ·refine G_exit ?_
  refine G_seq ?_
  refine G_region' (L:=[0,1]) rfl ?_
  refine x_light rfl rfl rfl (L_load rfl (xb0 ty_27)) ?_
  refine EOps_go rfl rfl (EOp_store rfl rfl rfl (xb1 ty_27) ?_)
  refine EOps_nil ?_
  refine G_ret ?_
  exact⟨_,[5,6,7],rfl,rfl,Y,i3,h3,⟨rfl,rfl⟩,hi3,hyv,hyr,by omega⟩

set_option maxRecDepth 20000 in
set_option maxHeartbeats 4000000 in
theorem c_spec_l4Any_f (l : List Int) (i h : Int) (hb : byL l) (hi : curOk l i) : EFn Try.prog 92 [.c (.bp 0 0)] [.box (curC l i h), .box [.sc (.slice none 0 0), .sc (.slice none 0 0), .sc (.slice none 0 0)], .box [.sc (.slice none 0 0), .sc (.slice none 0 0)]] (fun r S => ∃ (Y : Crk) (i' h' : Int), (r = .agg (crkO 3 Y) ∧ S = [.box (curC l i' h'), .box [.sc (.slice none 0 0), .sc (.slice none 0 0), .sc (.slice none 0 0)], .box [.sc (.slice none 0 0), .sc (.slice none 0 0)], .row 3 1 (ints Y.vals), .row 3 1 (ints Y.rows), .row 129 2 (pairs Y.piv)]) ∧ curOk l i' ∧ Y.vals.length ≤ 14 ∧ Y.rows.length ≤ 15 ∧ Y.piv.length ≤ 5) := by
  refine E_fn Try.func92 rfl (Nat.le_of_ble_eq_true rfl) ?_
  refine E_seq ?_
  refine E_region' (L:=[0]) rfl ?_
  refine x_alloc rfl rfl rfl rfl za_27 ?_
  refine EOps_nil ?_
  refine E_seq ?_
  refine e_tidy_A137_6 [0,2] ?_
  refine E_region' (L:=[0,1,2,3]) rfl ?_
  refine xmv ?_
  refine EOps_go rfl rfl (xe1 rfl rfl rfl ca_161 (c_spec_l4Cracker_fc l i h hb hi) ?_)
  rintro r S ⟨Y,i1,h1,⟨rfl,rfl⟩,hi1,hyv,hyr,hyp⟩
  refine x_alloc rfl rfl rfl rfl za_27 ?_
  refine EOps_go rfl rfl (EOp_store rfl rfl rfl (xb1 ty_27) ?_)
  refine EOps_nil ?_
  refine E_seq ?_
  refine E_seq ?_
  refine e_tidy_A137_6 [0,2,3] ?_
  refine E_region' (L:=[0,1]) rfl ?_
  refine xmv ?_
  refine EOps_go rfl rfl (xe2 rfl rfl rfl ca_114 (c_spec_l1Below l i1 h1 12 _ hb hi1 (by decide)) ?_)
  rintro r S ⟨x2,i2,h2,⟨rfl,rfl⟩,hi2,hx2⟩
  refine EOps_nil ?_
  refine E_block ?_
  refine E_seq ?_
  refine E_region' (L:=[0,1]) rfl ?_
  refine x_pure rfl rfl rfl (L_bin rfl rfl rfl rfl) ?_
  refine xas ?_
  refine EOps_nil ?_
  refine E_cond rfl (fun hc8=>?_) (fun hc8=>?_)
  · refine E_seq ?_
    refine E_region' (L:=[0,1,2,3]) rfl ?_
    refine x_pure rfl rfl rfl (l_field rfl fo_27_0) ?_
    refine x_light rfl rfl rfl (L_load rfl (xb0 ty_24)) ?_
    refine x_pure rfl rfl rfl (l_len rfl sl_24) ?_
    refine x_pure rfl rfl rfl (L_bin rfl rfl rfl rfl) ?_
    refine EOps_nil ?_
    refine E_cond rfl (fun hc13=>?_) (fun hc13=>?_)
    · have hvp : 0 < Y.vals.length := by simp at hc13; omega
      obtain⟨y0,hy0⟩:=at_lt (l:=Y.vals) (k:=0) hvp
      refine e_tidy_A137_6 [0,2,3,7,8,13] ?_
      refine E_drawU mixed ?_
      refine u_pure 0 rfl rfl rfl (l_field rfl fo_27_0) ?_
      refine u_pure 2 rfl rfl rfl (L_move rfl) ?_
      refine u_any 1 [3] ⟨?_,?_,trivial⟩
      · refine u_op 1 rfl rfl (EOp_light rfl (by decide) (L_load rfl (xb2 ty_24)) ?_)
        refine u_any 3 [] ⟨?_,trivial⟩
        refine u_op 3 rfl rfl (Heavy.op (H_bslice rfl rfl (by decide) sl_24 ty_3 za_3 ⟨rfl,by decide⟩ (by decide) rfl rfl rfl rfl ?_))
        refine u_any 4 [] ⟨?_,trivial⟩
        refine u_op 4 rfl rfl (xe2 rfl rfl rfl ca_159 (c_spec_l1PickInt l i2 h2 _ 7 [0,999,1000,-5] 4 hb hi2 (by decide) rfl rfl) ?_)
        rintro r S ⟨x3,i3,h3,⟨rfl,rfl⟩,hi3,hx3⟩
        refine u_pure 5 rfl rfl rfl (L_index rfl rfl (by first|exact i_ro sl_24 ty_3|exact i_sl sl_24 ty_3)) ?_
        refine u_any 6 [] ⟨?_,trivial⟩
        refine u_op 6 rfl rfl (EOp_store rfl rfl rfl (xb1 ty_3) ?_)
        refine u_done ?_
        refine E_seq ?_
        refine E_region' (L:=[0,1]) rfl ?_
        refine x_light rfl rfl rfl (L_load rfl (xb0 ty_27)) ?_
        refine EOps_go rfl rfl (EOp_store rfl rfl rfl (xb1 ty_27) ?_)
        refine EOps_nil ?_
        refine E_ret ?_
        first
          | exact⟨_,[4,5,6],rfl,rfl,Y,i2,h2,⟨rfl,rfl⟩,hi2,hyv,by omega,by omega⟩
          | (refine ⟨_, [4, 5, 6], rfl, rfl, ⟨Y.vals.set 0 x3, Y.rows, Y.piv⟩, i3, h3, ⟨?_, ?_⟩, hi3, ?_, ?_, ?_⟩
             · simp only [crkO,List.length_set];rfl
             · rw [← ints_set];rfl
             · simp only [List.length_set];exact hyv
             · show Y.rows.length≤15;omega
             · show Y.piv.length≤5;omega)
          | (refine ⟨_, [4, 5, 6], rfl, rfl, ⟨Y.vals, Y.rows, Y.piv ++ [(x3, x4)]⟩, i4, h4, ⟨?_, ?_⟩, hi4, hyv, ?_, ?_⟩
             · simp only [crkO,← pairs_lenApp];rfl
             · rw [← pairs_app];rfl
             · show Y.rows.length≤15;omega
             · simp only [List.length_append,List.length_singleton];omega)
          | (refine ⟨_, [4, 5, 6], rfl, rfl, ⟨Y.vals, Y.rows ++ [0], Y.piv⟩, i2, h2, ⟨?_, ?_⟩, hi2, hyv, ?_, ?_⟩
             · simp only [crkO,← ints_lenApp];rfl
             · rw [← ints_app];rfl
             · simp only [List.length_append,List.length_singleton];omega
             · show Y.piv.length≤5;omega)
      · refine u_op 3 rfl rfl (Heavy.op (H_bslice rfl rfl (by decide) sl_24 ty_3 za_3 ⟨rfl, by decide⟩ (by decide) rfl rfl rfl rfl ?_))
        refine u_any 1 [4] ⟨?_,?_,trivial⟩
        · refine u_op 1 rfl rfl (EOp_light rfl (by decide) (L_load rfl (xb2 ty_24)) ?_)
          refine u_any 4 [] ⟨?_,trivial⟩
          refine u_op 4 rfl rfl (xe2 rfl rfl rfl ca_159 (c_spec_l1PickInt l i2 h2 _ 7 [0,999,1000,-5] 4 hb hi2 (by decide) rfl rfl) ?_)
          rintro r S ⟨x3,i3,h3,⟨rfl,rfl⟩,hi3,hx3⟩
          refine u_pure 5 rfl rfl rfl (L_index rfl rfl (by first|exact i_ro sl_24 ty_3|exact i_sl sl_24 ty_3)) ?_
          refine u_any 6 [] ⟨?_,trivial⟩
          refine u_op 6 rfl rfl (EOp_store rfl rfl rfl (xb1 ty_3) ?_)
          refine u_done ?_
          refine E_seq ?_
          refine E_region' (L:=[0,1]) rfl ?_
          refine x_light rfl rfl rfl (L_load rfl (xb0 ty_27)) ?_
          refine EOps_go rfl rfl (EOp_store rfl rfl rfl (xb1 ty_27) ?_)
          refine EOps_nil ?_
          refine E_ret ?_
          first
            | exact⟨_,[4,5,6],rfl,rfl,Y,i2,h2,⟨rfl,rfl⟩,hi2,hyv,by omega,by omega⟩
            | (refine ⟨_, [4, 5, 6], rfl, rfl, ⟨Y.vals.set 0 x3, Y.rows, Y.piv⟩, i3, h3, ⟨?_, ?_⟩, hi3, ?_, ?_, ?_⟩
               · simp only [crkO,List.length_set];rfl
               · rw [← ints_set];rfl
               · simp only [List.length_set];exact hyv
               · show Y.rows.length≤15;omega
               · show Y.piv.length≤5;omega)
            | (refine ⟨_, [4, 5, 6], rfl, rfl, ⟨Y.vals, Y.rows, Y.piv ++ [(x3, x4)]⟩, i4, h4, ⟨?_, ?_⟩, hi4, hyv, ?_, ?_⟩
               · simp only [crkO,← pairs_lenApp];rfl
               · rw [← pairs_app];rfl
               · show Y.rows.length≤15;omega
               · simp only [List.length_append,List.length_singleton];omega)
            | (refine ⟨_, [4, 5, 6], rfl, rfl, ⟨Y.vals, Y.rows ++ [0], Y.piv⟩, i2, h2, ⟨?_, ?_⟩, hi2, hyv, ?_, ?_⟩
               · simp only [crkO,← ints_lenApp];rfl
               · rw [← ints_app];rfl
               · simp only [List.length_append,List.length_singleton];omega
               · show Y.piv.length≤5;omega)
        · refine u_op 4 rfl rfl (xe2 rfl rfl rfl ca_159 (c_spec_l1PickInt l i2 h2 _ 7 [0, 999, 1000, -5] 4 hb hi2 (by decide) rfl rfl) ?_)
          rintro r S ⟨x3,i3,h3,⟨rfl,rfl⟩,hi3,hx3⟩
          refine u_any 1 [] ⟨?_,trivial⟩
          refine u_op 1 rfl rfl (EOp_light rfl (by decide) (L_load rfl (xb0 ty_24)) ?_)
          refine u_pure 5 rfl rfl rfl (L_index rfl rfl (by first|exact i_ro sl_24 ty_3|exact i_sl sl_24 ty_3)) ?_
          refine u_any 6 [] ⟨?_,trivial⟩
          refine u_op 6 rfl rfl (EOp_store rfl rfl rfl (xb1 ty_3) ?_)
          refine u_done ?_
          refine E_seq ?_
          refine E_region' (L:=[0,1]) rfl ?_
          refine x_light rfl rfl rfl (L_load rfl (xb0 ty_27)) ?_
          refine EOps_go rfl rfl (EOp_store rfl rfl rfl (xb1 ty_27) ?_)
          refine EOps_nil ?_
          refine E_ret ?_
          first
            | exact⟨_,[4,5,6],rfl,rfl,Y,i2,h2,⟨rfl,rfl⟩,hi2,hyv,by omega,by omega⟩
            | (refine ⟨_, [4, 5, 6], rfl, rfl, ⟨Y.vals.set 0 x3, Y.rows, Y.piv⟩, i3, h3, ⟨?_, ?_⟩, hi3, ?_, ?_, ?_⟩
               · simp only [crkO,List.length_set];rfl
               · rw [← ints_set];rfl
               · simp only [List.length_set];exact hyv
               · show Y.rows.length≤15;omega
               · show Y.piv.length≤5;omega)
            | (refine ⟨_, [4, 5, 6], rfl, rfl, ⟨Y.vals, Y.rows, Y.piv ++ [(x3, x4)]⟩, i4, h4, ⟨?_, ?_⟩, hi4, hyv, ?_, ?_⟩
               · simp only [crkO,← pairs_lenApp];rfl
               · rw [← pairs_app];rfl
               · show Y.rows.length≤15;omega
               · simp only [List.length_append,List.length_singleton];omega)
            | (refine ⟨_, [4, 5, 6], rfl, rfl, ⟨Y.vals, Y.rows ++ [0], Y.piv⟩, i2, h2, ⟨?_, ?_⟩, hi2, hyv, ?_, ?_⟩
               · simp only [crkO,← ints_lenApp];rfl
               · rw [← ints_app];rfl
               · simp only [List.length_append,List.length_singleton];omega
               · show Y.piv.length≤5;omega)
    · refine E_skip ?_
      refine E_seq ?_
      refine E_region' (L:=[0,1]) rfl ?_
      refine x_light rfl rfl rfl (L_load rfl (xb0 ty_27)) ?_
      refine EOps_go rfl rfl (EOp_store rfl rfl rfl (xb1 ty_27) ?_)
      refine EOps_nil ?_
      refine E_ret ?_
      first
        | exact⟨_,[4,5,6],rfl,rfl,Y,i2,h2,⟨rfl,rfl⟩,hi2,hyv,by omega,by omega⟩
        | (refine ⟨_, [4, 5, 6], rfl, rfl, ⟨Y.vals.set 0 x3, Y.rows, Y.piv⟩, i3, h3, ⟨?_, ?_⟩, hi3, ?_, ?_, ?_⟩
           · simp only [crkO,List.length_set];rfl
           · rw [← ints_set];rfl
           · simp only [List.length_set];exact hyv
           · show Y.rows.length≤15;omega
           · show Y.piv.length≤5;omega)
        | (refine ⟨_, [4, 5, 6], rfl, rfl, ⟨Y.vals, Y.rows, Y.piv ++ [(x3, x4)]⟩, i4, h4, ⟨?_, ?_⟩, hi4, hyv, ?_, ?_⟩
           · simp only [crkO,← pairs_lenApp];rfl
           · rw [← pairs_app];rfl
           · show Y.rows.length≤15;omega
           · simp only [List.length_append,List.length_singleton];omega)
        | (refine ⟨_, [4, 5, 6], rfl, rfl, ⟨Y.vals, Y.rows ++ [0], Y.piv⟩, i2, h2, ⟨?_, ?_⟩, hi2, hyv, ?_, ?_⟩
           · simp only [crkO,← ints_lenApp];rfl
           · rw [← ints_app];rfl
           · simp only [List.length_append,List.length_singleton];omega
           · show Y.piv.length≤5;omega)
  · refine E_seq ?_
    refine E_region' (L:=[0,1]) rfl ?_
    refine x_pure rfl rfl rfl (L_bin rfl rfl rfl rfl) ?_
    refine xas ?_
    refine EOps_nil ?_
    refine E_cond rfl (fun hc20=>?_) (fun hc20=>?_)
    · refine e_tidy_A137_6 [0, 2, 3, 7, 8, 20] ?_
      refine E_drawU mixed ?_
      refine u_pure 0 rfl rfl rfl (l_field rfl fo_27_2) ?_
      refine u_pure 2 rfl rfl rfl (L_move rfl) ?_
      refine u_pure 4 rfl rfl rfl (L_move rfl) ?_
      refine u_any 1 [3] ⟨?_,?_,trivial⟩
      · refine u_op 1 rfl rfl (EOp_light rfl (by decide) (L_load rfl (xb2 ty_25)) ?_)
        refine u_any 3 [] ⟨?_,trivial⟩
        refine u_op 3 rfl rfl (xe2 rfl rfl rfl ca_114 (c_spec_l1Below l i2 h2 9 _ hb hi2 (by decide)) ?_)
        rintro r S ⟨x3,i3,h3,⟨rfl,rfl⟩,hi3,hx3⟩
        refine u_any 5 [] ⟨?_,trivial⟩
        refine u_op 5 rfl rfl (xe2 rfl rfl rfl ca_114 (c_spec_l1Below l i3 h3 9 _ hb hi3 (by decide)) ?_)
        rintro r S ⟨x4,i4,h4,⟨rfl,rfl⟩,hi4,hx4⟩
        refine u_pure 6 rfl rfl rfl (L_build rfl bd_129 rfl rfl) ?_
        refine u_any 7 [] ⟨?_,trivial⟩
        refine u_op 7 rfl rfl (Heavy.op (H_bslice_ro rfl rfl (by decide) sl_25 ty_129 za_129 ⟨rfl,by decide⟩ (by decide) rfl rfl rfl rfl ?_))
        refine u_any 8 [] ⟨?_,trivial⟩
        refine u_op 8 rfl rfl (EOp_append (news:=pairs [(x3,x4)]) rfl rfl (by decide) sl_25 ty_129 by_129 za_129 ⟨rfl,by decide⟩ rfl (by first|rfl|assumption) xb6 xb7 xb8 xb9 ?_)
        refine u_pure 9 rfl rfl rfl (l_field rfl fo_27_2) ?_
        refine u_any 10 [] ⟨?_,trivial⟩
        refine u_op 10 rfl rfl (EOp_store rfl rfl rfl (xb1 ty_25) ?_)
        refine u_done ?_
        refine E_seq ?_
        refine E_region' (L:=[0,1]) rfl ?_
        refine x_light rfl rfl rfl (L_load rfl (xb0 ty_27)) ?_
        refine EOps_go rfl rfl (EOp_store rfl rfl rfl (xb1 ty_27) ?_)
        refine EOps_nil ?_
        refine E_ret ?_
        first
          | exact⟨_,[4,5,6],rfl,rfl,Y,i2,h2,⟨rfl,rfl⟩,hi2,hyv,by omega,by omega⟩
          | (refine ⟨_, [4, 5, 6], rfl, rfl, ⟨Y.vals.set 0 x3, Y.rows, Y.piv⟩, i3, h3, ⟨?_, ?_⟩, hi3, ?_, ?_, ?_⟩
             · simp only [crkO,List.length_set];rfl
             · rw [← ints_set];rfl
             · simp only [List.length_set];exact hyv
             · show Y.rows.length≤15;omega
             · show Y.piv.length≤5;omega)
          | (refine ⟨_, [4, 5, 6], rfl, rfl, ⟨Y.vals, Y.rows, Y.piv ++ [(x3, x4)]⟩, i4, h4, ⟨?_, ?_⟩, hi4, hyv, ?_, ?_⟩
             · simp only [crkO,← pairs_lenApp];rfl
             · rw [← pairs_app];rfl
             · show Y.rows.length≤15;omega
             · simp only [List.length_append,List.length_singleton];omega)
          | (refine ⟨_, [4, 5, 6], rfl, rfl, ⟨Y.vals, Y.rows ++ [0], Y.piv⟩, i2, h2, ⟨?_, ?_⟩, hi2, hyv, ?_, ?_⟩
             · simp only [crkO,← ints_lenApp];rfl
             · rw [← ints_app];rfl
             · simp only [List.length_append,List.length_singleton];omega
             · show Y.piv.length≤5;omega)
      · refine u_op 3 rfl rfl (xe2 rfl rfl rfl ca_114 (c_spec_l1Below l i2 h2 9 _ hb hi2 (by decide)) ?_)
        rintro r S ⟨x3,i3,h3,⟨rfl,rfl⟩,hi3,hx3⟩
        refine u_any 1 [5] ⟨?_,?_,trivial⟩
        · refine u_op 1 rfl rfl (EOp_light rfl (by decide) (L_load rfl (xb2 ty_25)) ?_)
          refine u_any 5 [] ⟨?_,trivial⟩
          refine u_op 5 rfl rfl (xe2 rfl rfl rfl ca_114 (c_spec_l1Below l i3 h3 9 _ hb hi3 (by decide)) ?_)
          rintro r S ⟨x4,i4,h4,⟨rfl,rfl⟩,hi4,hx4⟩
          refine u_pure 6 rfl rfl rfl (L_build rfl bd_129 rfl rfl) ?_
          refine u_any 7 [] ⟨?_,trivial⟩
          refine u_op 7 rfl rfl (Heavy.op (H_bslice_ro rfl rfl (by decide) sl_25 ty_129 za_129 ⟨rfl,by decide⟩ (by decide) rfl rfl rfl rfl ?_))
          refine u_any 8 [] ⟨?_,trivial⟩
          refine u_op 8 rfl rfl (EOp_append (news:=pairs [(x3,x4)]) rfl rfl (by decide) sl_25 ty_129 by_129 za_129 ⟨rfl,by decide⟩ rfl (by first|rfl|assumption) xb6 xb7 xb8 xb9 ?_)
          refine u_pure 9 rfl rfl rfl (l_field rfl fo_27_2) ?_
          refine u_any 10 [] ⟨?_,trivial⟩
          refine u_op 10 rfl rfl (EOp_store rfl rfl rfl (xb1 ty_25) ?_)
          refine u_done ?_
          refine E_seq ?_
          refine E_region' (L:=[0,1]) rfl ?_
          refine x_light rfl rfl rfl (L_load rfl (xb0 ty_27)) ?_
          refine EOps_go rfl rfl (EOp_store rfl rfl rfl (xb1 ty_27) ?_)
          refine EOps_nil ?_
          refine E_ret ?_
          first
            | exact⟨_,[4,5,6],rfl,rfl,Y,i2,h2,⟨rfl,rfl⟩,hi2,hyv,by omega,by omega⟩
            | (refine ⟨_, [4, 5, 6], rfl, rfl, ⟨Y.vals.set 0 x3, Y.rows, Y.piv⟩, i3, h3, ⟨?_, ?_⟩, hi3, ?_, ?_, ?_⟩
               · simp only [crkO,List.length_set];rfl
               · rw [← ints_set];rfl
               · simp only [List.length_set];exact hyv
               · show Y.rows.length≤15;omega
               · show Y.piv.length≤5;omega)
            | (refine ⟨_, [4, 5, 6], rfl, rfl, ⟨Y.vals, Y.rows, Y.piv ++ [(x3, x4)]⟩, i4, h4, ⟨?_, ?_⟩, hi4, hyv, ?_, ?_⟩
               · simp only [crkO,← pairs_lenApp];rfl
               · rw [← pairs_app];rfl
               · show Y.rows.length≤15;omega
               · simp only [List.length_append,List.length_singleton];omega)
            | (refine ⟨_, [4, 5, 6], rfl, rfl, ⟨Y.vals, Y.rows ++ [0], Y.piv⟩, i2, h2, ⟨?_, ?_⟩, hi2, hyv, ?_, ?_⟩
               · simp only [crkO,← ints_lenApp];rfl
               · rw [← ints_app];rfl
               · simp only [List.length_append,List.length_singleton];omega
               · show Y.piv.length≤5;omega)
        · refine u_op 5 rfl rfl (xe2 rfl rfl rfl ca_114 (c_spec_l1Below l i3 h3 9 _ hb hi3 (by decide)) ?_)
          rintro r S ⟨x4,i4,h4,⟨rfl,rfl⟩,hi4,hx4⟩
          refine u_pure 6 rfl rfl rfl (L_build rfl bd_129 rfl rfl) ?_
          refine u_any 1 [7] ⟨?_,?_,trivial⟩
          · refine u_op 1 rfl rfl (EOp_light rfl (by decide) (L_load rfl (xb2 ty_25)) ?_)
            refine u_any 7 [] ⟨?_,trivial⟩
            refine u_op 7 rfl rfl (Heavy.op (H_bslice_ro rfl rfl (by decide) sl_25 ty_129 za_129 ⟨rfl,by decide⟩ (by decide) rfl rfl rfl rfl ?_))
            refine u_any 8 [] ⟨?_,trivial⟩
            refine u_op 8 rfl rfl (EOp_append (news:=pairs [(x3,x4)]) rfl rfl (by decide) sl_25 ty_129 by_129 za_129 ⟨rfl,by decide⟩ rfl (by first|rfl|assumption) xb6 xb7 xb8 xb9 ?_)
            refine u_pure 9 rfl rfl rfl (l_field rfl fo_27_2) ?_
            refine u_any 10 [] ⟨?_,trivial⟩
            refine u_op 10 rfl rfl (EOp_store rfl rfl rfl (xb1 ty_25) ?_)
            refine u_done ?_
            refine E_seq ?_
            refine E_region' (L:=[0,1]) rfl ?_
            refine x_light rfl rfl rfl (L_load rfl (xb0 ty_27)) ?_
            refine EOps_go rfl rfl (EOp_store rfl rfl rfl (xb1 ty_27) ?_)
            refine EOps_nil ?_
            refine E_ret ?_
            first
              | exact⟨_,[4,5,6],rfl,rfl,Y,i2,h2,⟨rfl,rfl⟩,hi2,hyv,by omega,by omega⟩
              | (refine ⟨_, [4, 5, 6], rfl, rfl, ⟨Y.vals.set 0 x3, Y.rows, Y.piv⟩, i3, h3, ⟨?_, ?_⟩, hi3, ?_, ?_, ?_⟩
                 · simp only [crkO,List.length_set];rfl
                 · rw [← ints_set];rfl
                 · simp only [List.length_set];exact hyv
                 · show Y.rows.length≤15;omega
                 · show Y.piv.length≤5;omega)
              | (refine ⟨_, [4, 5, 6], rfl, rfl, ⟨Y.vals, Y.rows, Y.piv ++ [(x3, x4)]⟩, i4, h4, ⟨?_, ?_⟩, hi4, hyv, ?_, ?_⟩
                 · simp only [crkO,← pairs_lenApp];rfl
                 · rw [← pairs_app];rfl
                 · show Y.rows.length≤15;omega
                 · simp only [List.length_append,List.length_singleton];omega)
              | (refine ⟨_, [4, 5, 6], rfl, rfl, ⟨Y.vals, Y.rows ++ [0], Y.piv⟩, i2, h2, ⟨?_, ?_⟩, hi2, hyv, ?_, ?_⟩
                 · simp only [crkO,← ints_lenApp];rfl
                 · rw [← ints_app];rfl
                 · simp only [List.length_append,List.length_singleton];omega
                 · show Y.piv.length≤5;omega)
          · refine u_op 7 rfl rfl (Heavy.op (H_bslice_ro rfl rfl (by decide) sl_25 ty_129 za_129 ⟨rfl, by decide⟩ (by decide) rfl rfl rfl rfl ?_))
            refine u_any 1 [] ⟨?_,trivial⟩
            refine u_op 1 rfl rfl (EOp_light rfl (by decide) (L_load rfl (xb0 ty_25)) ?_)
            refine u_any 8 [] ⟨?_,trivial⟩
            refine u_op 8 rfl rfl (EOp_append (news:=pairs [(x3,x4)]) rfl rfl (by decide) sl_25 ty_129 by_129 za_129 ⟨rfl,by decide⟩ rfl (by first|rfl|assumption) xb6 xb7 xb8 xb9 ?_)
            refine u_pure 9 rfl rfl rfl (l_field rfl fo_27_2) ?_
            refine u_any 10 [] ⟨?_,trivial⟩
            refine u_op 10 rfl rfl (EOp_store rfl rfl rfl (xb1 ty_25) ?_)
            refine u_done ?_
            refine E_seq ?_
            refine E_region' (L:=[0,1]) rfl ?_
            refine x_light rfl rfl rfl (L_load rfl (xb0 ty_27)) ?_
            refine EOps_go rfl rfl (EOp_store rfl rfl rfl (xb1 ty_27) ?_)
            refine EOps_nil ?_
            refine E_ret ?_
            first
              | exact⟨_,[4,5,6],rfl,rfl,Y,i2,h2,⟨rfl,rfl⟩,hi2,hyv,by omega,by omega⟩
              | (refine ⟨_, [4, 5, 6], rfl, rfl, ⟨Y.vals.set 0 x3, Y.rows, Y.piv⟩, i3, h3, ⟨?_, ?_⟩, hi3, ?_, ?_, ?_⟩
                 · simp only [crkO,List.length_set];rfl
                 · rw [← ints_set];rfl
                 · simp only [List.length_set];exact hyv
                 · show Y.rows.length≤15;omega
                 · show Y.piv.length≤5;omega)
              | (refine ⟨_, [4, 5, 6], rfl, rfl, ⟨Y.vals, Y.rows, Y.piv ++ [(x3, x4)]⟩, i4, h4, ⟨?_, ?_⟩, hi4, hyv, ?_, ?_⟩
                 · simp only [crkO,← pairs_lenApp];rfl
                 · rw [← pairs_app];rfl
                 · show Y.rows.length≤15;omega
                 · simp only [List.length_append,List.length_singleton];omega)
              | (refine ⟨_, [4, 5, 6], rfl, rfl, ⟨Y.vals, Y.rows ++ [0], Y.piv⟩, i2, h2, ⟨?_, ?_⟩, hi2, hyv, ?_, ?_⟩
                 · simp only [crkO,← ints_lenApp];rfl
                 · rw [← ints_app];rfl
                 · simp only [List.length_append,List.length_singleton];omega
                 · show Y.piv.length≤5;omega)
    · refine E_seq ?_
      refine E_region' (L:=[0,1]) rfl ?_
      refine x_pure rfl rfl rfl (L_bin rfl rfl rfl rfl) ?_
      refine xas ?_
      refine EOps_nil ?_
      refine E_cond rfl (fun hc32=>?_) (fun hc32=>?_)
      · refine E_region' (L := [0, 1, 2, 3, 4, 5]) rfl ?_
        refine x_pure rfl rfl rfl (l_field rfl fo_27_1) ?_
        refine x_light rfl rfl rfl (L_load rfl (xb0 ty_24)) ?_
        refine EOps_go rfl rfl (Heavy.op (H_bslice_ro rfl rfl (by decide) sl_24 ty_3 za_3 ⟨rfl,by decide⟩ (by decide) rfl rfl rfl rfl ?_))
        refine EOps_go rfl rfl (EOp_append (news:=ints [0]) rfl rfl (by decide) sl_24 ty_3 by_3 za_3 ⟨rfl,by decide⟩ rfl (by first|rfl|assumption) xb6 xb7 xb8 xb9 ?_)
        refine x_pure rfl rfl rfl (l_field rfl fo_27_1) ?_
        refine EOps_go rfl rfl (EOp_store rfl rfl rfl (xb1 ty_24) ?_)
        refine EOps_nil ?_
        refine E_seq ?_
        refine E_region' (L:=[0,1]) rfl ?_
        refine x_light rfl rfl rfl (L_load rfl (xb0 ty_27)) ?_
        refine EOps_go rfl rfl (EOp_store rfl rfl rfl (xb1 ty_27) ?_)
        refine EOps_nil ?_
        refine E_ret ?_
        first
          | exact⟨_,[4,5,6],rfl,rfl,Y,i2,h2,⟨rfl,rfl⟩,hi2,hyv,by omega,by omega⟩
          | (refine ⟨_, [4, 5, 6], rfl, rfl, ⟨Y.vals.set 0 x3, Y.rows, Y.piv⟩, i3, h3, ⟨?_, ?_⟩, hi3, ?_, ?_, ?_⟩
             · simp only [crkO,List.length_set];rfl
             · rw [← ints_set];rfl
             · simp only [List.length_set];exact hyv
             · show Y.rows.length≤15;omega
             · show Y.piv.length≤5;omega)
          | (refine ⟨_, [4, 5, 6], rfl, rfl, ⟨Y.vals, Y.rows, Y.piv ++ [(x3, x4)]⟩, i4, h4, ⟨?_, ?_⟩, hi4, hyv, ?_, ?_⟩
             · simp only [crkO,← pairs_lenApp];rfl
             · rw [← pairs_app];rfl
             · show Y.rows.length≤15;omega
             · simp only [List.length_append,List.length_singleton];omega)
          | (refine ⟨_, [4, 5, 6], rfl, rfl, ⟨Y.vals, Y.rows ++ [0], Y.piv⟩, i2, h2, ⟨?_, ?_⟩, hi2, hyv, ?_, ?_⟩
             · simp only [crkO,← ints_lenApp];rfl
             · rw [← ints_app];rfl
             · simp only [List.length_append,List.length_singleton];omega
             · show Y.piv.length≤5;omega)
      · refine E_skip ?_
        refine E_seq ?_
        refine E_region' (L:=[0,1]) rfl ?_
        refine x_light rfl rfl rfl (L_load rfl (xb0 ty_27)) ?_
        refine EOps_go rfl rfl (EOp_store rfl rfl rfl (xb1 ty_27) ?_)
        refine EOps_nil ?_
        refine E_ret ?_
        first
          | exact⟨_,[4,5,6],rfl,rfl,Y,i2,h2,⟨rfl,rfl⟩,hi2,hyv,by omega,by omega⟩
          | (refine ⟨_, [4, 5, 6], rfl, rfl, ⟨Y.vals.set 0 x3, Y.rows, Y.piv⟩, i3, h3, ⟨?_, ?_⟩, hi3, ?_, ?_, ?_⟩
             · simp only [crkO,List.length_set];rfl
             · rw [← ints_set];rfl
             · simp only [List.length_set];exact hyv
             · show Y.rows.length≤15;omega
             · show Y.piv.length≤5;omega)
          | (refine ⟨_, [4, 5, 6], rfl, rfl, ⟨Y.vals, Y.rows, Y.piv ++ [(x3, x4)]⟩, i4, h4, ⟨?_, ?_⟩, hi4, hyv, ?_, ?_⟩
             · simp only [crkO,← pairs_lenApp];rfl
             · rw [← pairs_app];rfl
             · show Y.rows.length≤15;omega
             · simp only [List.length_append,List.length_singleton];omega)
          | (refine ⟨_, [4, 5, 6], rfl, rfl, ⟨Y.vals, Y.rows ++ [0], Y.piv⟩, i2, h2, ⟨?_, ?_⟩, hi2, hyv, ?_, ?_⟩
             · simp only [crkO,← ints_lenApp];rfl
             · rw [← ints_app];rfl
             · simp only [List.length_append,List.length_singleton];omega
             · show Y.piv.length≤5;omega)

set_option maxRecDepth 20000 in
set_option maxHeartbeats 4000000 in
theorem c_spec_l4Value_fpv (l : List Int) (i h : Int) (Y : Crk) (p : Pnd) (hb : byL l) (hi : curOk l i) (hX : Y.vals.length ≤ 100000) : EFn Try.prog 76 [.c (.bp 0 0), .agg (crkO 3 Y)] [.box (curC l i h), .box [.sc (.slice none 0 0), .sc (.slice none 0 0), .sc (.slice none 0 0)], .box [.sc (.slice none 0 0), .sc (.slice none 0 0)], .row 3 1 (ints Y.vals), .row 3 1 (ints Y.rows), .row 129 2 (pairs Y.piv), .box (crkO 3 Y), .box (crkO 3 Y), .box [.sc (.slice none 0 0), .sc (.slice none 0 0)], .row 60 2 (pairs p.ins), .row 3 1 (ints p.del), .box (pndO 9 p)] (fun r S => ∃ (v i' h' : Int), (r = .c (.sc (.int .i64 v)) ∧ S = [.box (curC l i' h'), .box [.sc (.slice none 0 0), .sc (.slice none 0 0), .sc (.slice none 0 0)], .box [.sc (.slice none 0 0), .sc (.slice none 0 0)], .row 3 1 (ints Y.vals), .row 3 1 (ints Y.rows), .row 129 2 (pairs Y.piv), .box (crkO 3 Y), .box (crkO 3 Y), .box [.sc (.slice none 0 0), .sc (.slice none 0 0)], .row 60 2 (pairs p.ins), .row 3 1 (ints p.del), .box (pndO 9 p)]) ∧ curOk l i') := by
 refine E_fn Try.func76 rfl (Nat.le_of_ble_eq_true rfl) ?_
 refine E_seq ?_
 refine E_region' (L:=[0,1]) rfl ?_
 refine x_box rfl rfl rfl rfl rfl ?_
 refine xas ?_
 refine EOps_nil ?_
 refine E_seq ?_
 refine E_seq ?_
 refine e_tidy_A137_2 [0,1,3,4] ?_
 refine E_region' (L:=[0,1,2,3,4,5,6,7,8]) rfl ?_
 refine x_pure rfl rfl rfl (l_field rfl fo_27_0) ?_
 refine x_light rfl rfl rfl (L_load rfl (xb0 ty_24)) ?_
 refine x_pure rfl rfl rfl (l_len rfl sl_24) ?_
 refine x_pure rfl rfl rfl (L_bin rfl rfl rfl rfl) ?_
 refine xmv ?_
 refine EOps_split 9 (b:=_) rfl (fun hg9=>?_) (fun hg9=>?_)
 ·have hn0 : 0 < Y.vals.length := by simp at hg9; omega
  refine xmv ?_
  refine EOps_go rfl rfl (xe2 rfl rfl rfl ca_128 (c_spec_l1Once l i h 4 _ hb hi (by decide)) ?_)
  rintro r S ⟨b1,i1,h1,⟨rfl,rfl⟩,hi1⟩
  refine x_pure rfl rfl rfl (L_not rfl rfl) ?_
  refine x_pure rfl rfl rfl (L_pick rfl rfl) ?_
  refine EOps_nil ?_
  refine E_cond rfl (fun hc13=>?_) (fun hc13=>?_)
  ·refine E_seq ?_
   refine e_tidy_A137_2 [0,1,3,4,13] ?_
   refine E_drawU mixed ?_
   refine u_pure 0 rfl rfl rfl (l_field rfl fo_27_0) ?_
   refine u_pure 2 rfl rfl rfl (L_move rfl) ?_
   refine u_pure 3 rfl rfl rfl (l_field rfl fo_27_0) ?_
   refine u_pure 9 rfl rfl rfl (L_move rfl) ?_
   refine u_any 1 [4] ⟨?_,?_,trivial⟩
   ·refine u_op 1 rfl rfl (EOp_light rfl (by decide) (L_load rfl (xb2 ty_24)) ?_)
    refine u_any 4 [] ⟨?_,trivial⟩
    refine u_op 4 rfl rfl (EOp_light rfl (by decide) (L_load rfl (xb0 ty_24)) ?_)
    refine u_pure 5 rfl rfl rfl (l_len rfl sl_24) ?_
    refine u_any 6 [] ⟨?_,trivial⟩
    refine u_op 6 rfl rfl (xe2 rfl rfl rfl ca_114 (c_spec_l1Below l i1 h1 (Y.vals.length:Int) _ hb hi1 (by omega)) ?_)
    rintro r S ⟨x2,i2,h2,⟨rfl,rfl⟩,hi2,hx2⟩
    obtain⟨kk,rfl⟩:∃ kk:Nat,x2=(kk:Int):=⟨x2.toNat,by omega⟩
    have hk1:kk<Y.vals.length:=by have:=hx2.2.1 (by omega);omega
    obtain⟨y,hy⟩:=at_lt (l:=Y.vals) hk1
    refine u_pure 7 rfl rfl rfl (L_index rfl rfl (by first|exact i_ro sl_24 ty_3|exact i_sl sl_24 ty_3)) ?_
    refine u_any 8 [10] ⟨?_,?_,trivial⟩
    ·refine u_op 8 rfl rfl (EOp_light rfl (by decide) (L_load rfl (xb2 ty_3)) ?_)
     refine u_any 10 [] ⟨?_,trivial⟩
     refine u_op 10 rfl rfl (xe2 rfl rfl rfl ca_114 (c_spec_l1Below l i2 h2 3 _ hb hi2 (by decide)) ?_)
     rintro r S ⟨x3,i3,h3,⟨rfl,rfl⟩,hi3,hx3⟩
     refine u_pure 11 rfl rfl rfl xb3 ?_
     refine u_pure 12 rfl rfl rfl xb4 ?_
     refine u_pure 13 rfl rfl rfl (L_assign rfl) ?_
     refine u_done ?_
     refine E_ret ?_
     first
      | exact⟨_,[],rfl,rfl,_,i3,h3,⟨rfl,rfl⟩,hi3⟩
      | exact⟨_,[],rfl,rfl,_,i4,h4,⟨rfl,rfl⟩,hi4⟩
    ·refine u_op 10 rfl rfl (xe2 rfl rfl rfl ca_114 (c_spec_l1Below l i2 h2 3 _ hb hi2 (by decide)) ?_)
     rintro r S ⟨x3,i3,h3,⟨rfl,rfl⟩,hi3,hx3⟩
     refine u_any 8 [] ⟨?_,trivial⟩
     refine u_op 8 rfl rfl (EOp_light rfl (by decide) (L_load rfl (xb0 ty_3)) ?_)
     refine u_pure 11 rfl rfl rfl xb3 ?_
     refine u_pure 12 rfl rfl rfl xb4 ?_
     refine u_pure 13 rfl rfl rfl (L_assign rfl) ?_
     refine u_done ?_
     refine E_ret ?_
     first
      | exact⟨_,[],rfl,rfl,_,i3,h3,⟨rfl,rfl⟩,hi3⟩
      | exact⟨_,[],rfl,rfl,_,i4,h4,⟨rfl,rfl⟩,hi4⟩
   ·refine u_op 4 rfl rfl (EOp_light rfl (by decide) (L_load rfl (xb2 ty_24)) ?_)
    refine u_pure 5 rfl rfl rfl (l_len rfl sl_24) ?_
    refine u_any 1 [6] ⟨?_,?_,trivial⟩
    ·refine u_op 1 rfl rfl (EOp_light rfl (by decide) (L_load rfl (xb2 ty_24)) ?_)
     refine u_any 6 [] ⟨?_,trivial⟩
     refine u_op 6 rfl rfl (xe2 rfl rfl rfl ca_114 (c_spec_l1Below l i1 h1 (Y.vals.length:Int) _ hb hi1 (by omega)) ?_)
     rintro r S ⟨x2,i2,h2,⟨rfl,rfl⟩,hi2,hx2⟩
     obtain⟨kk,rfl⟩:∃ kk:Nat,x2=(kk:Int):=⟨x2.toNat,by omega⟩
     have hk1:kk<Y.vals.length:=by have:=hx2.2.1 (by omega);omega
     obtain⟨y,hy⟩:=at_lt (l:=Y.vals) hk1
     refine u_pure 7 rfl rfl rfl (L_index rfl rfl (by first|exact i_ro sl_24 ty_3|exact i_sl sl_24 ty_3)) ?_
     refine u_any 8 [10] ⟨?_,?_,trivial⟩
     ·refine u_op 8 rfl rfl (EOp_light rfl (by decide) (L_load rfl (xb2 ty_3)) ?_)
      refine u_any 10 [] ⟨?_,trivial⟩
      refine u_op 10 rfl rfl (xe2 rfl rfl rfl ca_114 (c_spec_l1Below l i2 h2 3 _ hb hi2 (by decide)) ?_)
      rintro r S ⟨x3,i3,h3,⟨rfl,rfl⟩,hi3,hx3⟩
      refine u_pure 11 rfl rfl rfl xb3 ?_
      refine u_pure 12 rfl rfl rfl xb4 ?_
      refine u_pure 13 rfl rfl rfl (L_assign rfl) ?_
      refine u_done ?_
      refine E_ret ?_
      first
       | exact⟨_,[],rfl,rfl,_,i3,h3,⟨rfl,rfl⟩,hi3⟩
       | exact⟨_,[],rfl,rfl,_,i4,h4,⟨rfl,rfl⟩,hi4⟩
     ·refine u_op 10 rfl rfl (xe2 rfl rfl rfl ca_114 (c_spec_l1Below l i2 h2 3 _ hb hi2 (by decide)) ?_)
      rintro r S ⟨x3,i3,h3,⟨rfl,rfl⟩,hi3,hx3⟩
      refine u_any 8 [] ⟨?_,trivial⟩
      refine u_op 8 rfl rfl (EOp_light rfl (by decide) (L_load rfl (xb0 ty_3)) ?_)
      refine u_pure 11 rfl rfl rfl xb3 ?_
      refine u_pure 12 rfl rfl rfl xb4 ?_
      refine u_pure 13 rfl rfl rfl (L_assign rfl) ?_
      refine u_done ?_
      refine E_ret ?_
      first
       | exact⟨_,[],rfl,rfl,_,i3,h3,⟨rfl,rfl⟩,hi3⟩
       | exact⟨_,[],rfl,rfl,_,i4,h4,⟨rfl,rfl⟩,hi4⟩
    ·refine u_op 6 rfl rfl (xe2 rfl rfl rfl ca_114 (c_spec_l1Below l i1 h1 (Y.vals.length : Int) _ hb hi1 (by omega)) ?_)
     rintro r S ⟨x2,i2,h2,⟨rfl,rfl⟩,hi2,hx2⟩
     obtain⟨kk,rfl⟩:∃ kk:Nat,x2=(kk:Int):=⟨x2.toNat,by omega⟩
     have hk1:kk<Y.vals.length:=by have:=hx2.2.1 (by omega);omega
     obtain⟨y,hy⟩:=at_lt (l:=Y.vals) hk1
     refine u_any 1 [10] ⟨?_,?_,trivial⟩
     ·refine u_op 1 rfl rfl (EOp_light rfl (by decide) (L_load rfl (xb2 ty_24)) ?_)
      refine u_pure 7 rfl rfl rfl (L_index rfl rfl (by first|exact i_ro sl_24 ty_3|exact i_sl sl_24 ty_3)) ?_
      refine u_any 8 [10] ⟨?_,?_,trivial⟩
      ·refine u_op 8 rfl rfl (EOp_light rfl (by decide) (L_load rfl (xb2 ty_3)) ?_)
       refine u_any 10 [] ⟨?_,trivial⟩
       refine u_op 10 rfl rfl (xe2 rfl rfl rfl ca_114 (c_spec_l1Below l i2 h2 3 _ hb hi2 (by decide)) ?_)
       rintro r S ⟨x3,i3,h3,⟨rfl,rfl⟩,hi3,hx3⟩
       refine u_pure 11 rfl rfl rfl xb3 ?_
       refine u_pure 12 rfl rfl rfl xb4 ?_
       refine u_pure 13 rfl rfl rfl (L_assign rfl) ?_
       refine u_done ?_
       refine E_ret ?_
       first
        | exact⟨_,[],rfl,rfl,_,i3,h3,⟨rfl,rfl⟩,hi3⟩
        | exact⟨_,[],rfl,rfl,_,i4,h4,⟨rfl,rfl⟩,hi4⟩
      ·refine u_op 10 rfl rfl (xe2 rfl rfl rfl ca_114 (c_spec_l1Below l i2 h2 3 _ hb hi2 (by decide)) ?_)
       rintro r S ⟨x3,i3,h3,⟨rfl,rfl⟩,hi3,hx3⟩
       refine u_any 8 [] ⟨?_,trivial⟩
       refine u_op 8 rfl rfl (EOp_light rfl (by decide) (L_load rfl (xb0 ty_3)) ?_)
       refine u_pure 11 rfl rfl rfl xb3 ?_
       refine u_pure 12 rfl rfl rfl xb4 ?_
       refine u_pure 13 rfl rfl rfl (L_assign rfl) ?_
       refine u_done ?_
       refine E_ret ?_
       first
        | exact⟨_,[],rfl,rfl,_,i3,h3,⟨rfl,rfl⟩,hi3⟩
        | exact⟨_,[],rfl,rfl,_,i4,h4,⟨rfl,rfl⟩,hi4⟩
     ·refine u_op 10 rfl rfl (xe2 rfl rfl rfl ca_114 (c_spec_l1Below l i2 h2 3 _ hb hi2 (by decide)) ?_)
      rintro r S ⟨x3,i3,h3,⟨rfl,rfl⟩,hi3,hx3⟩
      refine u_any 1 [] ⟨?_,trivial⟩
      refine u_op 1 rfl rfl (EOp_light rfl (by decide) (L_load rfl (xb0 ty_24)) ?_)
      refine u_pure 7 rfl rfl rfl (L_index rfl rfl (by first|exact i_ro sl_24 ty_3|exact i_sl sl_24 ty_3)) ?_
      refine u_any 8 [] ⟨?_,trivial⟩
      refine u_op 8 rfl rfl (EOp_light rfl (by decide) (L_load rfl (xb0 ty_3)) ?_)
      refine u_pure 11 rfl rfl rfl xb3 ?_
      refine u_pure 12 rfl rfl rfl xb4 ?_
      refine u_pure 13 rfl rfl rfl (L_assign rfl) ?_
      refine u_done ?_
      refine E_ret ?_
      first
       | exact⟨_,[],rfl,rfl,_,i3,h3,⟨rfl,rfl⟩,hi3⟩
       | exact⟨_,[],rfl,rfl,_,i4,h4,⟨rfl,rfl⟩,hi4⟩
  ·refine E_skip ?_
   refine E_seq ?_
   refine e_tidy_A137_2 [0,1,3,4,13] ?_
   refine E_region' (L:=[0,1,2,3]) rfl ?_
   refine xmv ?_
   refine EOps_go rfl rfl (Heavy.op (H_bslice rfl rfl (by decide) sl_24 ty_3 za_3 ⟨rfl,by decide⟩ (by decide) rfl rfl rfl rfl ?_))
   refine EOps_go rfl rfl (xe2 rfl rfl rfl ca_159 (c_spec_l1PickInt l _ _ _ 12 [0,3,-2,-1000,1000,50] 6 hb (by assumption) (by decide) rfl rfl) ?_)
   rintro r S ⟨x4,i4,h4,⟨rfl,rfl⟩,hi4,hx4⟩
   refine xas ?_
   refine EOps_nil ?_
   refine E_ret ?_
   first
    | exact⟨_,[],rfl,rfl,_,i3,h3,⟨rfl,rfl⟩,hi3⟩
    | exact⟨_,[],rfl,rfl,_,i4,h4,⟨rfl,rfl⟩,hi4⟩
 ·refine x_skip rfl rfl rfl ?_
  refine x_skip rfl rfl rfl ?_
  refine x_skip rfl rfl rfl ?_
  refine x_pure rfl rfl rfl (L_pick rfl rfl) ?_
  refine EOps_nil ?_
  refine E_cond rfl (fun hc13=>?_) (fun hc13=>?_)
  ·exact Bool.noConfusion (hc13:false=true)
  ·refine E_skip ?_
   refine E_seq ?_
   refine e_tidy_A137_2 [0,1,3,4,13] ?_
   refine E_region' (L:=[0,1,2,3]) rfl ?_
   refine xmv ?_
   refine EOps_go rfl rfl (Heavy.op (H_bslice rfl rfl (by decide) sl_24 ty_3 za_3 ⟨rfl,by decide⟩ (by decide) rfl rfl rfl rfl ?_))
   refine EOps_go rfl rfl (xe2 rfl rfl rfl ca_159 (c_spec_l1PickInt l _ _ _ 12 [0,3,-2,-1000,1000,50] 6 hb (by assumption) (by decide) rfl rfl) ?_)
   rintro r S ⟨x4,i4,h4,⟨rfl,rfl⟩,hi4,hx4⟩
   refine xas ?_
   refine EOps_nil ?_
   refine E_ret ?_
   first
    | exact⟨_,[],rfl,rfl,_,i3,h3,⟨rfl,rfl⟩,hi3⟩
    | exact⟨_,[],rfl,rfl,_,i4,h4,⟨rfl,rfl⟩,hi4⟩

set_option maxRecDepth 20000 in
set_option maxHeartbeats 4000000 in
theorem c_spec_l4Value_fpw (l : List Int) (i h : Int) (Y : Crk) (p : Pnd) (hb : byL l) (hi : curOk l i) (hX : Y.vals.length ≤ 100000) : EFn Try.prog 76 [.c (.bp 0 0), .agg (crkO 3 Y)] [.box (curC l i h), .box [.sc (.slice none 0 0), .sc (.slice none 0 0), .sc (.slice none 0 0)], .box [.sc (.slice none 0 0), .sc (.slice none 0 0)], .row 3 1 (ints Y.vals), .row 3 1 (ints Y.rows), .row 129 2 (pairs Y.piv), .box (crkO 3 Y), .box (crkO 3 Y), .box [.sc (.slice none 0 0), .sc (.slice none 0 0)], .row 60 2 (pairs p.ins), .row 3 1 (ints p.del), .box (pndO 9 p), .box (crkO 3 Y), .box [.sc (.int .i64 0), .sc (.int .i64 0)]] (fun r S => ∃ (v i' h' : Int), (r = .c (.sc (.int .i64 v)) ∧ S = [.box (curC l i' h'), .box [.sc (.slice none 0 0), .sc (.slice none 0 0), .sc (.slice none 0 0)], .box [.sc (.slice none 0 0), .sc (.slice none 0 0)], .row 3 1 (ints Y.vals), .row 3 1 (ints Y.rows), .row 129 2 (pairs Y.piv), .box (crkO 3 Y), .box (crkO 3 Y), .box [.sc (.slice none 0 0), .sc (.slice none 0 0)], .row 60 2 (pairs p.ins), .row 3 1 (ints p.del), .box (pndO 9 p), .box (crkO 3 Y), .box [.sc (.int .i64 0), .sc (.int .i64 0)]]) ∧ curOk l i') := by
 refine E_fn Try.func76 rfl (Nat.le_of_ble_eq_true rfl) ?_
 refine E_seq ?_
 refine E_region' (L:=[0,1]) rfl ?_
 refine x_box rfl rfl rfl rfl rfl ?_
 refine xas ?_
 refine EOps_nil ?_
 refine E_seq ?_
 refine E_seq ?_
 refine e_tidy_A137_2 [0,1,3,4] ?_
 refine E_region' (L:=[0,1,2,3,4,5,6,7,8]) rfl ?_
 refine x_pure rfl rfl rfl (l_field rfl fo_27_0) ?_
 refine x_light rfl rfl rfl (L_load rfl (xb0 ty_24)) ?_
 refine x_pure rfl rfl rfl (l_len rfl sl_24) ?_
 refine x_pure rfl rfl rfl (L_bin rfl rfl rfl rfl) ?_
 refine xmv ?_
 refine EOps_split 9 (b:=_) rfl (fun hg9=>?_) (fun hg9=>?_)
 ·have hn0 : 0 < Y.vals.length := by simp at hg9; omega
  refine xmv ?_
  refine EOps_go rfl rfl (xe2 rfl rfl rfl ca_128 (c_spec_l1Once l i h 4 _ hb hi (by decide)) ?_)
  rintro r S ⟨b1,i1,h1,⟨rfl,rfl⟩,hi1⟩
  refine x_pure rfl rfl rfl (L_not rfl rfl) ?_
  refine x_pure rfl rfl rfl (L_pick rfl rfl) ?_
  refine EOps_nil ?_
  refine E_cond rfl (fun hc13=>?_) (fun hc13=>?_)
  ·refine E_seq ?_
   refine e_tidy_A137_2 [0,1,3,4,13] ?_
   refine E_drawU mixed ?_
   refine u_pure 0 rfl rfl rfl (l_field rfl fo_27_0) ?_
   refine u_pure 2 rfl rfl rfl (L_move rfl) ?_
   refine u_pure 3 rfl rfl rfl (l_field rfl fo_27_0) ?_
   refine u_pure 9 rfl rfl rfl (L_move rfl) ?_
   refine u_any 1 [4] ⟨?_,?_,trivial⟩
   ·refine u_op 1 rfl rfl (EOp_light rfl (by decide) (L_load rfl (xb2 ty_24)) ?_)
    refine u_any 4 [] ⟨?_,trivial⟩
    refine u_op 4 rfl rfl (EOp_light rfl (by decide) (L_load rfl (xb0 ty_24)) ?_)
    refine u_pure 5 rfl rfl rfl (l_len rfl sl_24) ?_
    refine u_any 6 [] ⟨?_,trivial⟩
    refine u_op 6 rfl rfl (xe2 rfl rfl rfl ca_114 (c_spec_l1Below l i1 h1 (Y.vals.length:Int) _ hb hi1 (by omega)) ?_)
    rintro r S ⟨x2,i2,h2,⟨rfl,rfl⟩,hi2,hx2⟩
    obtain⟨kk,rfl⟩:∃ kk:Nat,x2=(kk:Int):=⟨x2.toNat,by omega⟩
    have hk1:kk<Y.vals.length:=by have:=hx2.2.1 (by omega);omega
    obtain⟨y,hy⟩:=at_lt (l:=Y.vals) hk1
    refine u_pure 7 rfl rfl rfl (L_index rfl rfl (by first|exact i_ro sl_24 ty_3|exact i_sl sl_24 ty_3)) ?_
    refine u_any 8 [10] ⟨?_,?_,trivial⟩
    ·refine u_op 8 rfl rfl (EOp_light rfl (by decide) (L_load rfl (xb2 ty_3)) ?_)
     refine u_any 10 [] ⟨?_,trivial⟩
     refine u_op 10 rfl rfl (xe2 rfl rfl rfl ca_114 (c_spec_l1Below l i2 h2 3 _ hb hi2 (by decide)) ?_)
     rintro r S ⟨x3,i3,h3,⟨rfl,rfl⟩,hi3,hx3⟩
     refine u_pure 11 rfl rfl rfl xb3 ?_
     refine u_pure 12 rfl rfl rfl xb4 ?_
     refine u_pure 13 rfl rfl rfl (L_assign rfl) ?_
     refine u_done ?_
     refine E_ret ?_
     first
      | exact⟨_,[],rfl,rfl,_,i3,h3,⟨rfl,rfl⟩,hi3⟩
      | exact⟨_,[],rfl,rfl,_,i4,h4,⟨rfl,rfl⟩,hi4⟩
    ·refine u_op 10 rfl rfl (xe2 rfl rfl rfl ca_114 (c_spec_l1Below l i2 h2 3 _ hb hi2 (by decide)) ?_)
     rintro r S ⟨x3,i3,h3,⟨rfl,rfl⟩,hi3,hx3⟩
     refine u_any 8 [] ⟨?_,trivial⟩
     refine u_op 8 rfl rfl (EOp_light rfl (by decide) (L_load rfl (xb0 ty_3)) ?_)
     refine u_pure 11 rfl rfl rfl xb3 ?_
     refine u_pure 12 rfl rfl rfl xb4 ?_
     refine u_pure 13 rfl rfl rfl (L_assign rfl) ?_
     refine u_done ?_
     refine E_ret ?_
     first
      | exact⟨_,[],rfl,rfl,_,i3,h3,⟨rfl,rfl⟩,hi3⟩
      | exact⟨_,[],rfl,rfl,_,i4,h4,⟨rfl,rfl⟩,hi4⟩
   ·refine u_op 4 rfl rfl (EOp_light rfl (by decide) (L_load rfl (xb2 ty_24)) ?_)
    refine u_pure 5 rfl rfl rfl (l_len rfl sl_24) ?_
    refine u_any 1 [6] ⟨?_,?_,trivial⟩
    ·refine u_op 1 rfl rfl (EOp_light rfl (by decide) (L_load rfl (xb2 ty_24)) ?_)
     refine u_any 6 [] ⟨?_,trivial⟩
     refine u_op 6 rfl rfl (xe2 rfl rfl rfl ca_114 (c_spec_l1Below l i1 h1 (Y.vals.length:Int) _ hb hi1 (by omega)) ?_)
     rintro r S ⟨x2,i2,h2,⟨rfl,rfl⟩,hi2,hx2⟩
     obtain⟨kk,rfl⟩:∃ kk:Nat,x2=(kk:Int):=⟨x2.toNat,by omega⟩
     have hk1:kk<Y.vals.length:=by have:=hx2.2.1 (by omega);omega
     obtain⟨y,hy⟩:=at_lt (l:=Y.vals) hk1
     refine u_pure 7 rfl rfl rfl (L_index rfl rfl (by first|exact i_ro sl_24 ty_3|exact i_sl sl_24 ty_3)) ?_
     refine u_any 8 [10] ⟨?_,?_,trivial⟩
     ·refine u_op 8 rfl rfl (EOp_light rfl (by decide) (L_load rfl (xb2 ty_3)) ?_)
      refine u_any 10 [] ⟨?_,trivial⟩
      refine u_op 10 rfl rfl (xe2 rfl rfl rfl ca_114 (c_spec_l1Below l i2 h2 3 _ hb hi2 (by decide)) ?_)
      rintro r S ⟨x3,i3,h3,⟨rfl,rfl⟩,hi3,hx3⟩
      refine u_pure 11 rfl rfl rfl xb3 ?_
      refine u_pure 12 rfl rfl rfl xb4 ?_
      refine u_pure 13 rfl rfl rfl (L_assign rfl) ?_
      refine u_done ?_
      refine E_ret ?_
      first
       | exact⟨_,[],rfl,rfl,_,i3,h3,⟨rfl,rfl⟩,hi3⟩
       | exact⟨_,[],rfl,rfl,_,i4,h4,⟨rfl,rfl⟩,hi4⟩
     ·refine u_op 10 rfl rfl (xe2 rfl rfl rfl ca_114 (c_spec_l1Below l i2 h2 3 _ hb hi2 (by decide)) ?_)
      rintro r S ⟨x3,i3,h3,⟨rfl,rfl⟩,hi3,hx3⟩
      refine u_any 8 [] ⟨?_,trivial⟩
      refine u_op 8 rfl rfl (EOp_light rfl (by decide) (L_load rfl (xb0 ty_3)) ?_)
      refine u_pure 11 rfl rfl rfl xb3 ?_
      refine u_pure 12 rfl rfl rfl xb4 ?_
      refine u_pure 13 rfl rfl rfl (L_assign rfl) ?_
      refine u_done ?_
      refine E_ret ?_
      first
       | exact⟨_,[],rfl,rfl,_,i3,h3,⟨rfl,rfl⟩,hi3⟩
       | exact⟨_,[],rfl,rfl,_,i4,h4,⟨rfl,rfl⟩,hi4⟩
    ·refine u_op 6 rfl rfl (xe2 rfl rfl rfl ca_114 (c_spec_l1Below l i1 h1 (Y.vals.length : Int) _ hb hi1 (by omega)) ?_)
     rintro r S ⟨x2,i2,h2,⟨rfl,rfl⟩,hi2,hx2⟩
     obtain⟨kk,rfl⟩:∃ kk:Nat,x2=(kk:Int):=⟨x2.toNat,by omega⟩
     have hk1:kk<Y.vals.length:=by have:=hx2.2.1 (by omega);omega
     obtain⟨y,hy⟩:=at_lt (l:=Y.vals) hk1
     refine u_any 1 [10] ⟨?_,?_,trivial⟩
     ·refine u_op 1 rfl rfl (EOp_light rfl (by decide) (L_load rfl (xb2 ty_24)) ?_)
      refine u_pure 7 rfl rfl rfl (L_index rfl rfl (by first|exact i_ro sl_24 ty_3|exact i_sl sl_24 ty_3)) ?_
      refine u_any 8 [10] ⟨?_,?_,trivial⟩
      ·refine u_op 8 rfl rfl (EOp_light rfl (by decide) (L_load rfl (xb2 ty_3)) ?_)
       refine u_any 10 [] ⟨?_,trivial⟩
       refine u_op 10 rfl rfl (xe2 rfl rfl rfl ca_114 (c_spec_l1Below l i2 h2 3 _ hb hi2 (by decide)) ?_)
       rintro r S ⟨x3,i3,h3,⟨rfl,rfl⟩,hi3,hx3⟩
       refine u_pure 11 rfl rfl rfl xb3 ?_
       refine u_pure 12 rfl rfl rfl xb4 ?_
       refine u_pure 13 rfl rfl rfl (L_assign rfl) ?_
       refine u_done ?_
       refine E_ret ?_
       first
        | exact⟨_,[],rfl,rfl,_,i3,h3,⟨rfl,rfl⟩,hi3⟩
        | exact⟨_,[],rfl,rfl,_,i4,h4,⟨rfl,rfl⟩,hi4⟩
      ·refine u_op 10 rfl rfl (xe2 rfl rfl rfl ca_114 (c_spec_l1Below l i2 h2 3 _ hb hi2 (by decide)) ?_)
       rintro r S ⟨x3,i3,h3,⟨rfl,rfl⟩,hi3,hx3⟩
       refine u_any 8 [] ⟨?_,trivial⟩
       refine u_op 8 rfl rfl (EOp_light rfl (by decide) (L_load rfl (xb0 ty_3)) ?_)
       refine u_pure 11 rfl rfl rfl xb3 ?_
       refine u_pure 12 rfl rfl rfl xb4 ?_
       refine u_pure 13 rfl rfl rfl (L_assign rfl) ?_
       refine u_done ?_
       refine E_ret ?_
       first
        | exact⟨_,[],rfl,rfl,_,i3,h3,⟨rfl,rfl⟩,hi3⟩
        | exact⟨_,[],rfl,rfl,_,i4,h4,⟨rfl,rfl⟩,hi4⟩
     ·refine u_op 10 rfl rfl (xe2 rfl rfl rfl ca_114 (c_spec_l1Below l i2 h2 3 _ hb hi2 (by decide)) ?_)
      rintro r S ⟨x3,i3,h3,⟨rfl,rfl⟩,hi3,hx3⟩
      refine u_any 1 [] ⟨?_,trivial⟩
      refine u_op 1 rfl rfl (EOp_light rfl (by decide) (L_load rfl (xb0 ty_24)) ?_)
      refine u_pure 7 rfl rfl rfl (L_index rfl rfl (by first|exact i_ro sl_24 ty_3|exact i_sl sl_24 ty_3)) ?_
      refine u_any 8 [] ⟨?_,trivial⟩
      refine u_op 8 rfl rfl (EOp_light rfl (by decide) (L_load rfl (xb0 ty_3)) ?_)
      refine u_pure 11 rfl rfl rfl xb3 ?_
      refine u_pure 12 rfl rfl rfl xb4 ?_
      refine u_pure 13 rfl rfl rfl (L_assign rfl) ?_
      refine u_done ?_
      refine E_ret ?_
      first
       | exact⟨_,[],rfl,rfl,_,i3,h3,⟨rfl,rfl⟩,hi3⟩
       | exact⟨_,[],rfl,rfl,_,i4,h4,⟨rfl,rfl⟩,hi4⟩
  ·refine E_skip ?_
   refine E_seq ?_
   refine e_tidy_A137_2 [0,1,3,4,13] ?_
   refine E_region' (L:=[0,1,2,3]) rfl ?_
   refine xmv ?_
   refine EOps_go rfl rfl (Heavy.op (H_bslice rfl rfl (by decide) sl_24 ty_3 za_3 ⟨rfl,by decide⟩ (by decide) rfl rfl rfl rfl ?_))
   refine EOps_go rfl rfl (xe2 rfl rfl rfl ca_159 (c_spec_l1PickInt l _ _ _ 14 [0,3,-2,-1000,1000,50] 6 hb (by assumption) (by decide) rfl rfl) ?_)
   rintro r S ⟨x4,i4,h4,⟨rfl,rfl⟩,hi4,hx4⟩
   refine xas ?_
   refine EOps_nil ?_
   refine E_ret ?_
   first
    | exact⟨_,[],rfl,rfl,_,i3,h3,⟨rfl,rfl⟩,hi3⟩
    | exact⟨_,[],rfl,rfl,_,i4,h4,⟨rfl,rfl⟩,hi4⟩
 ·refine x_skip rfl rfl rfl ?_
  refine x_skip rfl rfl rfl ?_
  refine x_skip rfl rfl rfl ?_
  refine x_pure rfl rfl rfl (L_pick rfl rfl) ?_
  refine EOps_nil ?_
  refine E_cond rfl (fun hc13=>?_) (fun hc13=>?_)
  ·exact Bool.noConfusion (hc13:false=true)
  ·refine E_skip ?_
   refine E_seq ?_
   refine e_tidy_A137_2 [0,1,3,4,13] ?_
   refine E_region' (L:=[0,1,2,3]) rfl ?_
   refine xmv ?_
   refine EOps_go rfl rfl (Heavy.op (H_bslice rfl rfl (by decide) sl_24 ty_3 za_3 ⟨rfl,by decide⟩ (by decide) rfl rfl rfl rfl ?_))
   refine EOps_go rfl rfl (xe2 rfl rfl rfl ca_159 (c_spec_l1PickInt l _ _ _ 14 [0,3,-2,-1000,1000,50] 6 hb (by assumption) (by decide) rfl rfl) ?_)
   rintro r S ⟨x4,i4,h4,⟨rfl,rfl⟩,hi4,hx4⟩
   refine xas ?_
   refine EOps_nil ?_
   refine E_ret ?_
   first
    | exact⟨_,[],rfl,rfl,_,i3,h3,⟨rfl,rfl⟩,hi3⟩
    | exact⟨_,[],rfl,rfl,_,i4,h4,⟨rfl,rfl⟩,hi4⟩

set_option maxRecDepth 20000 in
set_option maxHeartbeats 4000000 in
theorem c_spec_l10Item_fpi (l : List Int) (i h : Int) (Y : Crk) (p : Pnd) (hb : byL l) (hi : curOk l i) (hX : Y.vals.length ≤ 100000) : EFn Try.prog 105 [.c (.bp 0 0), .agg (crkO 3 Y)] [.box (curC l i h), .box [.sc (.slice none 0 0), .sc (.slice none 0 0), .sc (.slice none 0 0)], .box [.sc (.slice none 0 0), .sc (.slice none 0 0)], .row 3 1 (ints Y.vals), .row 3 1 (ints Y.rows), .row 129 2 (pairs Y.piv), .box (crkO 3 Y), .box (crkO 3 Y), .box [.sc (.slice none 0 0), .sc (.slice none 0 0)], .row 60 2 (pairs p.ins), .row 3 1 (ints p.del), .box (pndO 9 p)] (fun r S => ∃ (a b i' h' : Int), (r = .agg [.sc (.int .i64 a), .sc (.int .i64 b)] ∧ S = [.box (curC l i' h'), .box [.sc (.slice none 0 0), .sc (.slice none 0 0), .sc (.slice none 0 0)], .box [.sc (.slice none 0 0), .sc (.slice none 0 0)], .row 3 1 (ints Y.vals), .row 3 1 (ints Y.rows), .row 129 2 (pairs Y.piv), .box (crkO 3 Y), .box (crkO 3 Y), .box [.sc (.slice none 0 0), .sc (.slice none 0 0)], .row 60 2 (pairs p.ins), .row 3 1 (ints p.del), .box (pndO 9 p)]) ∧ curOk l i') := by
 refine E_fn Try.func105 rfl (Nat.le_of_ble_eq_true rfl) ?_
 refine E_G (n:=12) rfl ?_
 refine G_seq ?_
 refine G_region' (L:=[0,1]) rfl ?_
 refine x_box rfl rfl rfl rfl rfl ?_
 refine x_alloc rfl rfl rfl rfl za_60 ?_
 refine EOps_nil ?_
 refine G_seq ?_
 refine g_tidy_A137_7 [0,1,3,4] ?_
 refine G_region' (L:=[0,1,2,3]) rfl ?_
 refine xmv ?_
 refine EOps_go rfl rfl (Heavy.op (H_bslice rfl rfl (by decide) sl_24 ty_3 za_3 ⟨rfl,by decide⟩ (by decide) rfl rfl rfl rfl ?_))
 refine EOps_go rfl rfl (xe2 rfl rfl rfl ca_159 (c_spec_l1PickInt l i h _ 13 [0,3,20,21,22,23,999] 7 hb hi (by decide) rfl rfl) ?_)
 rintro r S ⟨w,i1,h1,⟨rfl,rfl⟩,hi1,hw⟩
 refine xas ?_
 refine EOps_nil ?_
 refine G_seq ?_
 refine G_drop [0,3,4,5] [12,13] rfl rfl rfl ?_
 refine g_tidy_A137_7 [0,1,3,4,5] ?_
 refine G_region' (L:=[0,1,2,3,4,5,6,7]) rfl ?_
 refine xmv ?_
 refine x_light rfl rfl rfl (L_load rfl (xb0 ty_27)) ?_
 refine EOps_go rfl rfl (xe2 rfl rfl rfl ca_76 (c_spec_l4Value_fpw l i1 h1 Y p hb hi1 hX) ?_)
 rintro r S ⟨v,i2,h2,⟨rfl,rfl⟩,hi2⟩
 refine x_pure rfl rfl rfl (L_min rfl rfl rfl) ?_
 refine x_pure rfl rfl rfl (L_max rfl rfl rfl) ?_
 refine xmv ?_
 refine x_pure rfl rfl rfl (L_build rfl bd_60 rfl rfl) ?_
 refine EOps_go rfl rfl (EOp_store rfl rfl rfl (xb1 ty_60) ?_)
 refine EOps_nil ?_
 refine G_ret ?_
 exact⟨_,[],rfl,rfl,_,_,i2,h2,⟨rfl,rfl⟩,hi2⟩

set_option maxRecDepth 20000 in
set_option maxHeartbeats 8000000 in
theorem c_spec_l11Pending_fp (l : List Int) (i h : Int) (Y : Crk) (hb : byL l) (hi : curOk l i) (hX : Y.vals.length ≤ 1000 ∧ Y.rows.length ≤ 1000) : EFn Try.prog 104 [.c (.bp 0 0), .agg (crkO 3 Y)] [.box (curC l i h), .box [.sc (.slice none 0 0), .sc (.slice none 0 0), .sc (.slice none 0 0)], .box [.sc (.slice none 0 0), .sc (.slice none 0 0)], .row 3 1 (ints Y.vals), .row 3 1 (ints Y.rows), .row 129 2 (pairs Y.piv), .box (crkO 3 Y)] (fun r S => ∃ (p : Pnd) (i' h' : Int), (r = .agg (pndO 7 p) ∧ S = [.box (curC l i' h'), .box [.sc (.slice none 0 0), .sc (.slice none 0 0), .sc (.slice none 0 0)], .box [.sc (.slice none 0 0), .sc (.slice none 0 0)], .row 3 1 (ints Y.vals), .row 3 1 (ints Y.rows), .row 129 2 (pairs Y.piv), .box (crkO 3 Y), .row 60 2 (pairs p.ins), .row 3 1 (ints p.del)]) ∧ curOk l i' ∧ p.ins.length ≤ 6 ∧ p.del.length ≤ 6) := by
  refine E_fn Try.func104 rfl (Nat.le_of_ble_eq_true rfl) ?_
  refine E_G (n:=7) rfl ?_
  refine G_seq ?_
  refine G_region' (L:=[0,1]) rfl ?_
  refine x_box rfl rfl rfl rfl rfl ?_
  refine x_alloc rfl rfl rfl rfl za_58 ?_
  refine EOps_nil ?_
  refine G_seq ?_
  refine G_region' (L:=[0,1,2]) rfl ?_
  refine x_pure rfl rfl rfl (L_build rfl bd_58 rfl rfl) ?_
  refine x_alloc rfl rfl rfl rfl za_58 ?_
  refine EOps_go rfl rfl (EOp_store rfl rfl rfl (xb1 ty_58) ?_)
  refine EOps_nil ?_
  refine G_seq ?_
  refine G_seq ?_
  refine G_ghostB 9 0 60 2 rfl rfl (by decide) ?_
  refine G_ghostB 9 1 3 1 rfl rfl (by decide) ?_
  refine G_drop [0,3,4,5] [7,8,10,11,9] rfl rfl rfl ?_
  refine g_tidy_A137_8 [0,1,3,4,5] ?_
  refine G_region' (L:=[0,1,2]) rfl ?_
  refine xmv ?_
  refine EOps_go rfl rfl (xe2 rfl rfl rfl ca_114 (c_spec_l1Below l i h 6 _ hb hi (by decide)) ?_)
  rintro r S ⟨x2,i2,h2,⟨rfl,rfl⟩,hi2,hx2⟩
  obtain⟨kk,rfl⟩:∃ kk:Nat,x2=(kk:Int):=⟨x2.toNat,by omega⟩
  have hk1:=hx2.2.1 (by omega)
  refine xas ?_
  refine EOps_nil ?_
  refine G_block ?_
  refine g_forD_A137_9 (α:=Nat × Pnd × Int × Int) [0,1,3,4,5] (fun (n,p,i3,h3)=>[(6,.c (.sc (.int .i64 ((n:Int)))))]) (fun (n,p,i3,h3)=>[.box (curC l i3 h3),.box [.sc (.slice none 0 0),.sc (.slice none 0 0),.sc (.slice none 0 0)],.box [.sc (.slice none 0 0),.sc (.slice none 0 0)],.row 3 1 (ints Y.vals),.row 3 1 (ints Y.rows),.row 129 2 (pairs Y.piv),.box (crkO 3 Y),.box (crkO 3 Y),.box [.sc (.slice none 0 0),.sc (.slice none 0 0)],.row 60 2 (pairs p.ins),.row 3 1 (ints p.del),.box (pndO 9 p)]) (fun (n,p,i3,h3)=>p.ins.length+n≤5∧p.del.length+n≤5∧curOk l i3) (fun (n,p,i3,h3)=>n) ((kk,⟨[],[]⟩,i2,h2)) ?_ (rfl) ⟨.inr rfl,trivial⟩ ?_
  · exact⟨by simp;omega,by simp;omega,hi2⟩
  rintro⟨n,p,i3,h3⟩ ⟨hpi,hpd,hi3⟩
  dsimp only at *
  refine G_seq ?_
  refine G_seq ?_
  refine G_region' (L:=[0,1]) rfl ?_
  refine xmv ?_
  refine x_pure rfl rfl rfl (L_bin rfl rfl rfl rfl) ?_
  refine EOps_nil ?_
  refine G_cond rfl (fun hc11=>?_) (fun hc11=>?_)
  · have hn1 : 0 < n := by simp at hc11; omega
    refine G_skip ?_
    refine G_seq ?_
    refine G_block ?_
    refine G_seq ?_
    refine g_tidy_A137_8 [0,1,3,4,5,6,11,15] ?_
    refine G_region' (L:=[0,1]) rfl ?_
    refine xmv ?_
    refine EOps_go rfl rfl (xe2 rfl rfl rfl ca_128 (c_spec_l1Once l i3 h3 3 _ hb hi3 (by decide)) ?_)
    rintro r S ⟨b4,i4,h4,⟨rfl,rfl⟩,hi4⟩
    refine EOps_nil ?_
    refine G_cond rfl (fun hc15=>?_) (fun hc15=>?_)
    · refine g_tidy_A137_8 [0, 1, 3, 4, 5, 6, 11, 15] ?_
      refine G_drawU mixed ?_
      refine u_pure 2 rfl rfl rfl (L_move rfl) ?_
      refine u_any 0 [1,3] ⟨?_,?_,?_,trivial⟩
      · refine u_op 0 rfl rfl (EOp_light rfl (by decide) (L_load rfl (xb2 ty_27)) ?_)
        refine u_any 1 [3] ⟨?_,?_,trivial⟩
        · refine u_op 1 rfl rfl (EOp_light rfl (by decide) (L_load rfl (xb2 ty_58)) ?_)
          refine u_any 3 [] ⟨?_,trivial⟩
          refine u_op 3 rfl rfl (xe2 rfl rfl rfl ca_114 (c_spec_l1Below l i4 h4 14 _ hb hi4 (by decide)) ?_)
          rintro r S ⟨x5,i5,h5,⟨rfl,rfl⟩,hi5,hx5⟩
          refine u_any 4 [] ⟨?_,trivial⟩
          refine u_call 4 rfl rfl rfl rfl rfl ca_38 (c_spec_AddDelete Y p x5 (by omega)) ?_
          rintro r S ⟨rfl,rfl⟩
          refine u_pure 5 rfl rfl rfl (L_move rfl) ?_
          refine u_pure 6 rfl rfl rfl (L_extract rfl rfl) ?_
          refine u_pure 7 rfl rfl rfl (L_extract rfl rfl) ?_
          refine u_any 8 [] ⟨?_,trivial⟩
          refine u_op 8 rfl rfl (EOp_store rfl rfl rfl (xb1 ty_58) ?_)
          refine u_done ?_
          refine G_region' (L:=[0,1,2]) rfl ?_
          refine xmv ?_
          refine x_pure rfl rfl rfl xb4 ?_
          refine xas ?_
          refine EOps_nil ?_
          refine⟨[7,8,12,13,11],rfl,(n - 1,delR Y p x5,i5,h5),?_,?_,rfl,⟨.inr (int_eq (by first|omega|(dsimp only;omega))),trivial⟩,⟨.inr rfl,.inr rfl,.inr rfl,.inr rfl,.inr rfl,trivial⟩⟩
          · dsimp only;omega
          · first
              | exact⟨by have:=delR_small Y p x5;dsimp only;omega,by have:=delR_small Y p x5;dsimp only;omega,by assumption⟩
              | exact⟨by have:=addIr_small Y p (clampI v,20+x6);dsimp only;omega,by have:=addIr_small Y p (clampI v,20+x6);dsimp only;omega,by assumption⟩
        · refine u_op 3 rfl rfl (xe2 rfl rfl rfl ca_114 (c_spec_l1Below l i4 h4 14 _ hb hi4 (by decide)) ?_)
          rintro r S ⟨x5,i5,h5,⟨rfl,rfl⟩,hi5,hx5⟩
          refine u_any 1 [] ⟨?_,trivial⟩
          refine u_op 1 rfl rfl (EOp_light rfl (by decide) (L_load rfl (xb0 ty_58)) ?_)
          refine u_any 4 [] ⟨?_,trivial⟩
          refine u_call 4 rfl rfl rfl rfl rfl ca_38 (c_spec_AddDelete Y p x5 (by omega)) ?_
          rintro r S ⟨rfl,rfl⟩
          refine u_pure 5 rfl rfl rfl (L_move rfl) ?_
          refine u_pure 6 rfl rfl rfl (L_extract rfl rfl) ?_
          refine u_pure 7 rfl rfl rfl (L_extract rfl rfl) ?_
          refine u_any 8 [] ⟨?_,trivial⟩
          refine u_op 8 rfl rfl (EOp_store rfl rfl rfl (xb1 ty_58) ?_)
          refine u_done ?_
          refine G_region' (L:=[0,1,2]) rfl ?_
          refine xmv ?_
          refine x_pure rfl rfl rfl xb4 ?_
          refine xas ?_
          refine EOps_nil ?_
          refine⟨[7,8,12,13,11],rfl,(n - 1,delR Y p x5,i5,h5),?_,?_,rfl,⟨.inr (int_eq (by first|omega|(dsimp only;omega))),trivial⟩,⟨.inr rfl,.inr rfl,.inr rfl,.inr rfl,.inr rfl,trivial⟩⟩
          · dsimp only;omega
          · first
              | exact⟨by have:=delR_small Y p x5;dsimp only;omega,by have:=delR_small Y p x5;dsimp only;omega,by assumption⟩
              | exact⟨by have:=addIr_small Y p (clampI v,20+x6);dsimp only;omega,by have:=addIr_small Y p (clampI v,20+x6);dsimp only;omega,by assumption⟩
      · refine u_op 1 rfl rfl (EOp_light rfl (by decide) (L_load rfl (xb2 ty_58)) ?_)
        refine u_any 0 [3] ⟨?_,?_,trivial⟩
        · refine u_op 0 rfl rfl (EOp_light rfl (by decide) (L_load rfl (xb2 ty_27)) ?_)
          refine u_any 3 [] ⟨?_,trivial⟩
          refine u_op 3 rfl rfl (xe2 rfl rfl rfl ca_114 (c_spec_l1Below l i4 h4 14 _ hb hi4 (by decide)) ?_)
          rintro r S ⟨x5,i5,h5,⟨rfl,rfl⟩,hi5,hx5⟩
          refine u_any 4 [] ⟨?_,trivial⟩
          refine u_call 4 rfl rfl rfl rfl rfl ca_38 (c_spec_AddDelete Y p x5 (by omega)) ?_
          rintro r S ⟨rfl,rfl⟩
          refine u_pure 5 rfl rfl rfl (L_move rfl) ?_
          refine u_pure 6 rfl rfl rfl (L_extract rfl rfl) ?_
          refine u_pure 7 rfl rfl rfl (L_extract rfl rfl) ?_
          refine u_any 8 [] ⟨?_,trivial⟩
          refine u_op 8 rfl rfl (EOp_store rfl rfl rfl (xb1 ty_58) ?_)
          refine u_done ?_
          refine G_region' (L:=[0,1,2]) rfl ?_
          refine xmv ?_
          refine x_pure rfl rfl rfl xb4 ?_
          refine xas ?_
          refine EOps_nil ?_
          refine⟨[7,8,12,13,11],rfl,(n - 1,delR Y p x5,i5,h5),?_,?_,rfl,⟨.inr (int_eq (by first|omega|(dsimp only;omega))),trivial⟩,⟨.inr rfl,.inr rfl,.inr rfl,.inr rfl,.inr rfl,trivial⟩⟩
          · dsimp only;omega
          · first
              | exact⟨by have:=delR_small Y p x5;dsimp only;omega,by have:=delR_small Y p x5;dsimp only;omega,by assumption⟩
              | exact⟨by have:=addIr_small Y p (clampI v,20+x6);dsimp only;omega,by have:=addIr_small Y p (clampI v,20+x6);dsimp only;omega,by assumption⟩
        · refine u_op 3 rfl rfl (xe2 rfl rfl rfl ca_114 (c_spec_l1Below l i4 h4 14 _ hb hi4 (by decide)) ?_)
          rintro r S ⟨x5,i5,h5,⟨rfl,rfl⟩,hi5,hx5⟩
          refine u_any 0 [] ⟨?_,trivial⟩
          refine u_op 0 rfl rfl (EOp_light rfl (by decide) (L_load rfl (xb0 ty_27)) ?_)
          refine u_any 4 [] ⟨?_,trivial⟩
          refine u_call 4 rfl rfl rfl rfl rfl ca_38 (c_spec_AddDelete Y p x5 (by omega)) ?_
          rintro r S ⟨rfl,rfl⟩
          refine u_pure 5 rfl rfl rfl (L_move rfl) ?_
          refine u_pure 6 rfl rfl rfl (L_extract rfl rfl) ?_
          refine u_pure 7 rfl rfl rfl (L_extract rfl rfl) ?_
          refine u_any 8 [] ⟨?_,trivial⟩
          refine u_op 8 rfl rfl (EOp_store rfl rfl rfl (xb1 ty_58) ?_)
          refine u_done ?_
          refine G_region' (L:=[0,1,2]) rfl ?_
          refine xmv ?_
          refine x_pure rfl rfl rfl xb4 ?_
          refine xas ?_
          refine EOps_nil ?_
          refine⟨[7,8,12,13,11],rfl,(n - 1,delR Y p x5,i5,h5),?_,?_,rfl,⟨.inr (int_eq (by first|omega|(dsimp only;omega))),trivial⟩,⟨.inr rfl,.inr rfl,.inr rfl,.inr rfl,.inr rfl,trivial⟩⟩
          · dsimp only;omega
          · first
              | exact⟨by have:=delR_small Y p x5;dsimp only;omega,by have:=delR_small Y p x5;dsimp only;omega,by assumption⟩
              | exact⟨by have:=addIr_small Y p (clampI v,20+x6);dsimp only;omega,by have:=addIr_small Y p (clampI v,20+x6);dsimp only;omega,by assumption⟩
      · refine u_op 3 rfl rfl (xe2 rfl rfl rfl ca_114 (c_spec_l1Below l i4 h4 14 _ hb hi4 (by decide)) ?_)
        rintro r S ⟨x5,i5,h5,⟨rfl,rfl⟩,hi5,hx5⟩
        refine u_any 0 [1] ⟨?_,?_,trivial⟩
        · refine u_op 0 rfl rfl (EOp_light rfl (by decide) (L_load rfl (xb2 ty_27)) ?_)
          refine u_any 1 [] ⟨?_,trivial⟩
          refine u_op 1 rfl rfl (EOp_light rfl (by decide) (L_load rfl (xb0 ty_58)) ?_)
          refine u_any 4 [] ⟨?_,trivial⟩
          refine u_call 4 rfl rfl rfl rfl rfl ca_38 (c_spec_AddDelete Y p x5 (by omega)) ?_
          rintro r S ⟨rfl,rfl⟩
          refine u_pure 5 rfl rfl rfl (L_move rfl) ?_
          refine u_pure 6 rfl rfl rfl (L_extract rfl rfl) ?_
          refine u_pure 7 rfl rfl rfl (L_extract rfl rfl) ?_
          refine u_any 8 [] ⟨?_,trivial⟩
          refine u_op 8 rfl rfl (EOp_store rfl rfl rfl (xb1 ty_58) ?_)
          refine u_done ?_
          refine G_region' (L:=[0,1,2]) rfl ?_
          refine xmv ?_
          refine x_pure rfl rfl rfl xb4 ?_
          refine xas ?_
          refine EOps_nil ?_
          refine⟨[7,8,12,13,11],rfl,(n - 1,delR Y p x5,i5,h5),?_,?_,rfl,⟨.inr (int_eq (by first|omega|(dsimp only;omega))),trivial⟩,⟨.inr rfl,.inr rfl,.inr rfl,.inr rfl,.inr rfl,trivial⟩⟩
          · dsimp only;omega
          · first
              | exact⟨by have:=delR_small Y p x5;dsimp only;omega,by have:=delR_small Y p x5;dsimp only;omega,by assumption⟩
              | exact⟨by have:=addIr_small Y p (clampI v,20+x6);dsimp only;omega,by have:=addIr_small Y p (clampI v,20+x6);dsimp only;omega,by assumption⟩
        · refine u_op 1 rfl rfl (EOp_light rfl (by decide) (L_load rfl (xb2 ty_58)) ?_)
          refine u_any 0 [] ⟨?_,trivial⟩
          refine u_op 0 rfl rfl (EOp_light rfl (by decide) (L_load rfl (xb0 ty_27)) ?_)
          refine u_any 4 [] ⟨?_,trivial⟩
          refine u_call 4 rfl rfl rfl rfl rfl ca_38 (c_spec_AddDelete Y p x5 (by omega)) ?_
          rintro r S ⟨rfl,rfl⟩
          refine u_pure 5 rfl rfl rfl (L_move rfl) ?_
          refine u_pure 6 rfl rfl rfl (L_extract rfl rfl) ?_
          refine u_pure 7 rfl rfl rfl (L_extract rfl rfl) ?_
          refine u_any 8 [] ⟨?_,trivial⟩
          refine u_op 8 rfl rfl (EOp_store rfl rfl rfl (xb1 ty_58) ?_)
          refine u_done ?_
          refine G_region' (L:=[0,1,2]) rfl ?_
          refine xmv ?_
          refine x_pure rfl rfl rfl xb4 ?_
          refine xas ?_
          refine EOps_nil ?_
          refine⟨[7,8,12,13,11],rfl,(n - 1,delR Y p x5,i5,h5),?_,?_,rfl,⟨.inr (int_eq (by first|omega|(dsimp only;omega))),trivial⟩,⟨.inr rfl,.inr rfl,.inr rfl,.inr rfl,.inr rfl,trivial⟩⟩
          · dsimp only;omega
          · first
              | exact⟨by have:=delR_small Y p x5;dsimp only;omega,by have:=delR_small Y p x5;dsimp only;omega,by assumption⟩
              | exact⟨by have:=addIr_small Y p (clampI v,20+x6);dsimp only;omega,by have:=addIr_small Y p (clampI v,20+x6);dsimp only;omega,by assumption⟩
    · refine g_tidy_A137_8 [0, 1, 3, 4, 5, 6, 11, 15] ?_
      refine G_drawU mixed ?_
      refine u_pure 2 rfl rfl rfl (L_move rfl) ?_
      refine u_pure 7 rfl rfl rfl (L_move rfl) ?_
      refine u_any 0 [1,3] ⟨?_,?_,?_,trivial⟩
      · refine u_op 0 rfl rfl (EOp_light rfl (by decide) (L_load rfl (xb2 ty_27)) ?_)
        refine u_any 1 [3] ⟨?_,?_,trivial⟩
        · refine u_op 1 rfl rfl (EOp_light rfl (by decide) (L_load rfl (xb2 ty_58)) ?_)
          refine u_any 3 [] ⟨?_,trivial⟩
          refine u_op 3 rfl rfl (EOp_light rfl (by decide) (L_load rfl (xb0 ty_27)) ?_)
          refine u_any 4 [] ⟨?_,trivial⟩
          refine u_op 4 rfl rfl (xe2 rfl rfl rfl ca_76 (c_spec_l4Value_fpv l i4 h4 Y p hb hi4 (by omega)) ?_)
          rintro r S ⟨v,i5,h5,⟨rfl,rfl⟩,hi5⟩
          refine u_pure 5 rfl rfl rfl (L_min rfl rfl rfl) ?_
          refine u_pure 6 rfl rfl rfl (L_max rfl rfl rfl) ?_
          refine u_any 8 [] ⟨?_,trivial⟩
          refine u_op 8 rfl rfl (xe2 rfl rfl rfl ca_114 (c_spec_l1Below l i5 h5 9 _ hb hi5 (by decide)) ?_)
          rintro r S ⟨x6,i6,h6,⟨rfl,rfl⟩,hi6,hx6⟩
          refine u_pure 9 rfl rfl rfl xb3 ?_
          refine u_pure 10 rfl rfl rfl (L_build rfl bd_60 rfl rfl) ?_
          refine u_any 11 [] ⟨?_,trivial⟩
          refine u_call 11 rfl rfl rfl rfl rfl ca_32 (c_spec_AddInsert Y p (clampI v,20+x6) (by omega)) ?_
          rintro r S ⟨rfl,rfl⟩
          refine u_pure 12 rfl rfl rfl (L_move rfl) ?_
          refine u_pure 13 rfl rfl rfl (L_extract rfl rfl) ?_
          refine u_pure 14 rfl rfl rfl (L_extract rfl rfl) ?_
          refine u_any 15 [] ⟨?_,trivial⟩
          refine u_op 15 rfl rfl (EOp_store rfl rfl rfl (xb1 ty_58) ?_)
          refine u_done ?_
          refine G_region' (L:=[0,1,2]) rfl ?_
          refine xmv ?_
          refine x_pure rfl rfl rfl xb4 ?_
          refine xas ?_
          refine EOps_nil ?_
          refine⟨[7,8,12,13,11],rfl,(n - 1,addIr Y p (clampI v,20+x6),i6,h6),?_,?_,rfl,⟨.inr (int_eq (by first|omega|(dsimp only;omega))),trivial⟩,⟨.inr rfl,.inr rfl,.inr rfl,.inr rfl,.inr rfl,trivial⟩⟩
          · dsimp only;omega
          · first
              | exact⟨by have:=delR_small Y p x5;dsimp only;omega,by have:=delR_small Y p x5;dsimp only;omega,by assumption⟩
              | exact⟨by have:=addIr_small Y p (clampI v,20+x6);dsimp only;omega,by have:=addIr_small Y p (clampI v,20+x6);dsimp only;omega,by assumption⟩
        · refine u_op 3 rfl rfl (EOp_light rfl (by decide) (L_load rfl (xb2 ty_27)) ?_)
          refine u_any 1 [4] ⟨?_,?_,trivial⟩
          · refine u_op 1 rfl rfl (EOp_light rfl (by decide) (L_load rfl (xb2 ty_58)) ?_)
            refine u_any 4 [] ⟨?_,trivial⟩
            refine u_op 4 rfl rfl (xe2 rfl rfl rfl ca_76 (c_spec_l4Value_fpv l i4 h4 Y p hb hi4 (by omega)) ?_)
            rintro r S ⟨v,i5,h5,⟨rfl,rfl⟩,hi5⟩
            refine u_pure 5 rfl rfl rfl (L_min rfl rfl rfl) ?_
            refine u_pure 6 rfl rfl rfl (L_max rfl rfl rfl) ?_
            refine u_any 8 [] ⟨?_,trivial⟩
            refine u_op 8 rfl rfl (xe2 rfl rfl rfl ca_114 (c_spec_l1Below l i5 h5 9 _ hb hi5 (by decide)) ?_)
            rintro r S ⟨x6,i6,h6,⟨rfl,rfl⟩,hi6,hx6⟩
            refine u_pure 9 rfl rfl rfl xb3 ?_
            refine u_pure 10 rfl rfl rfl (L_build rfl bd_60 rfl rfl) ?_
            refine u_any 11 [] ⟨?_,trivial⟩
            refine u_call 11 rfl rfl rfl rfl rfl ca_32 (c_spec_AddInsert Y p (clampI v,20+x6) (by omega)) ?_
            rintro r S ⟨rfl,rfl⟩
            refine u_pure 12 rfl rfl rfl (L_move rfl) ?_
            refine u_pure 13 rfl rfl rfl (L_extract rfl rfl) ?_
            refine u_pure 14 rfl rfl rfl (L_extract rfl rfl) ?_
            refine u_any 15 [] ⟨?_,trivial⟩
            refine u_op 15 rfl rfl (EOp_store rfl rfl rfl (xb1 ty_58) ?_)
            refine u_done ?_
            refine G_region' (L:=[0,1,2]) rfl ?_
            refine xmv ?_
            refine x_pure rfl rfl rfl xb4 ?_
            refine xas ?_
            refine EOps_nil ?_
            refine⟨[7,8,12,13,11],rfl,(n - 1,addIr Y p (clampI v,20+x6),i6,h6),?_,?_,rfl,⟨.inr (int_eq (by first|omega|(dsimp only;omega))),trivial⟩,⟨.inr rfl,.inr rfl,.inr rfl,.inr rfl,.inr rfl,trivial⟩⟩
            · dsimp only;omega
            · first
                | exact⟨by have:=delR_small Y p x5;dsimp only;omega,by have:=delR_small Y p x5;dsimp only;omega,by assumption⟩
                | exact⟨by have:=addIr_small Y p (clampI v,20+x6);dsimp only;omega,by have:=addIr_small Y p (clampI v,20+x6);dsimp only;omega,by assumption⟩
          · refine u_op 4 rfl rfl (xe2 rfl rfl rfl ca_76 (c_spec_l4Value_fpv l i4 h4 Y p hb hi4 (by omega)) ?_)
            rintro r S ⟨v,i5,h5,⟨rfl,rfl⟩,hi5⟩
            refine u_pure 5 rfl rfl rfl (L_min rfl rfl rfl) ?_
            refine u_pure 6 rfl rfl rfl (L_max rfl rfl rfl) ?_
            refine u_any 1 [8] ⟨?_,?_,trivial⟩
            · refine u_op 1 rfl rfl (EOp_light rfl (by decide) (L_load rfl (xb2 ty_58)) ?_)
              refine u_any 8 [] ⟨?_,trivial⟩
              refine u_op 8 rfl rfl (xe2 rfl rfl rfl ca_114 (c_spec_l1Below l i5 h5 9 _ hb hi5 (by decide)) ?_)
              rintro r S ⟨x6,i6,h6,⟨rfl,rfl⟩,hi6,hx6⟩
              refine u_pure 9 rfl rfl rfl xb3 ?_
              refine u_pure 10 rfl rfl rfl (L_build rfl bd_60 rfl rfl) ?_
              refine u_any 11 [] ⟨?_,trivial⟩
              refine u_call 11 rfl rfl rfl rfl rfl ca_32 (c_spec_AddInsert Y p (clampI v,20+x6) (by omega)) ?_
              rintro r S ⟨rfl,rfl⟩
              refine u_pure 12 rfl rfl rfl (L_move rfl) ?_
              refine u_pure 13 rfl rfl rfl (L_extract rfl rfl) ?_
              refine u_pure 14 rfl rfl rfl (L_extract rfl rfl) ?_
              refine u_any 15 [] ⟨?_,trivial⟩
              refine u_op 15 rfl rfl (EOp_store rfl rfl rfl (xb1 ty_58) ?_)
              refine u_done ?_
              refine G_region' (L:=[0,1,2]) rfl ?_
              refine xmv ?_
              refine x_pure rfl rfl rfl xb4 ?_
              refine xas ?_
              refine EOps_nil ?_
              refine⟨[7,8,12,13,11],rfl,(n - 1,addIr Y p (clampI v,20+x6),i6,h6),?_,?_,rfl,⟨.inr (int_eq (by first|omega|(dsimp only;omega))),trivial⟩,⟨.inr rfl,.inr rfl,.inr rfl,.inr rfl,.inr rfl,trivial⟩⟩
              · dsimp only;omega
              · first
                  | exact⟨by have:=delR_small Y p x5;dsimp only;omega,by have:=delR_small Y p x5;dsimp only;omega,by assumption⟩
                  | exact⟨by have:=addIr_small Y p (clampI v,20+x6);dsimp only;omega,by have:=addIr_small Y p (clampI v,20+x6);dsimp only;omega,by assumption⟩
            · refine u_op 8 rfl rfl (xe2 rfl rfl rfl ca_114 (c_spec_l1Below l i5 h5 9 _ hb hi5 (by decide)) ?_)
              rintro r S ⟨x6,i6,h6,⟨rfl,rfl⟩,hi6,hx6⟩
              refine u_pure 9 rfl rfl rfl xb3 ?_
              refine u_pure 10 rfl rfl rfl (L_build rfl bd_60 rfl rfl) ?_
              refine u_any 1 [] ⟨?_,trivial⟩
              refine u_op 1 rfl rfl (EOp_light rfl (by decide) (L_load rfl (xb0 ty_58)) ?_)
              refine u_any 11 [] ⟨?_,trivial⟩
              refine u_call 11 rfl rfl rfl rfl rfl ca_32 (c_spec_AddInsert Y p (clampI v,20+x6) (by omega)) ?_
              rintro r S ⟨rfl,rfl⟩
              refine u_pure 12 rfl rfl rfl (L_move rfl) ?_
              refine u_pure 13 rfl rfl rfl (L_extract rfl rfl) ?_
              refine u_pure 14 rfl rfl rfl (L_extract rfl rfl) ?_
              refine u_any 15 [] ⟨?_,trivial⟩
              refine u_op 15 rfl rfl (EOp_store rfl rfl rfl (xb1 ty_58) ?_)
              refine u_done ?_
              refine G_region' (L:=[0,1,2]) rfl ?_
              refine xmv ?_
              refine x_pure rfl rfl rfl xb4 ?_
              refine xas ?_
              refine EOps_nil ?_
              refine⟨[7,8,12,13,11],rfl,(n - 1,addIr Y p (clampI v,20+x6),i6,h6),?_,?_,rfl,⟨.inr (int_eq (by first|omega|(dsimp only;omega))),trivial⟩,⟨.inr rfl,.inr rfl,.inr rfl,.inr rfl,.inr rfl,trivial⟩⟩
              · dsimp only;omega
              · first
                  | exact⟨by have:=delR_small Y p x5;dsimp only;omega,by have:=delR_small Y p x5;dsimp only;omega,by assumption⟩
                  | exact⟨by have:=addIr_small Y p (clampI v,20+x6);dsimp only;omega,by have:=addIr_small Y p (clampI v,20+x6);dsimp only;omega,by assumption⟩
      · refine u_op 1 rfl rfl (EOp_light rfl (by decide) (L_load rfl (xb2 ty_58)) ?_)
        refine u_any 0 [3] ⟨?_,?_,trivial⟩
        · refine u_op 0 rfl rfl (EOp_light rfl (by decide) (L_load rfl (xb2 ty_27)) ?_)
          refine u_any 3 [] ⟨?_,trivial⟩
          refine u_op 3 rfl rfl (EOp_light rfl (by decide) (L_load rfl (xb0 ty_27)) ?_)
          refine u_any 4 [] ⟨?_,trivial⟩
          refine u_op 4 rfl rfl (xe2 rfl rfl rfl ca_76 (c_spec_l4Value_fpv l i4 h4 Y p hb hi4 (by omega)) ?_)
          rintro r S ⟨v,i5,h5,⟨rfl,rfl⟩,hi5⟩
          refine u_pure 5 rfl rfl rfl (L_min rfl rfl rfl) ?_
          refine u_pure 6 rfl rfl rfl (L_max rfl rfl rfl) ?_
          refine u_any 8 [] ⟨?_,trivial⟩
          refine u_op 8 rfl rfl (xe2 rfl rfl rfl ca_114 (c_spec_l1Below l i5 h5 9 _ hb hi5 (by decide)) ?_)
          rintro r S ⟨x6,i6,h6,⟨rfl,rfl⟩,hi6,hx6⟩
          refine u_pure 9 rfl rfl rfl xb3 ?_
          refine u_pure 10 rfl rfl rfl (L_build rfl bd_60 rfl rfl) ?_
          refine u_any 11 [] ⟨?_,trivial⟩
          refine u_call 11 rfl rfl rfl rfl rfl ca_32 (c_spec_AddInsert Y p (clampI v,20+x6) (by omega)) ?_
          rintro r S ⟨rfl,rfl⟩
          refine u_pure 12 rfl rfl rfl (L_move rfl) ?_
          refine u_pure 13 rfl rfl rfl (L_extract rfl rfl) ?_
          refine u_pure 14 rfl rfl rfl (L_extract rfl rfl) ?_
          refine u_any 15 [] ⟨?_,trivial⟩
          refine u_op 15 rfl rfl (EOp_store rfl rfl rfl (xb1 ty_58) ?_)
          refine u_done ?_
          refine G_region' (L:=[0,1,2]) rfl ?_
          refine xmv ?_
          refine x_pure rfl rfl rfl xb4 ?_
          refine xas ?_
          refine EOps_nil ?_
          refine⟨[7,8,12,13,11],rfl,(n - 1,addIr Y p (clampI v,20+x6),i6,h6),?_,?_,rfl,⟨.inr (int_eq (by first|omega|(dsimp only;omega))),trivial⟩,⟨.inr rfl,.inr rfl,.inr rfl,.inr rfl,.inr rfl,trivial⟩⟩
          · dsimp only;omega
          · first
              | exact⟨by have:=delR_small Y p x5;dsimp only;omega,by have:=delR_small Y p x5;dsimp only;omega,by assumption⟩
              | exact⟨by have:=addIr_small Y p (clampI v,20+x6);dsimp only;omega,by have:=addIr_small Y p (clampI v,20+x6);dsimp only;omega,by assumption⟩
        · refine u_op 3 rfl rfl (EOp_light rfl (by decide) (L_load rfl (xb2 ty_27)) ?_)
          refine u_any 0 [4] ⟨?_,?_,trivial⟩
          · refine u_op 0 rfl rfl (EOp_light rfl (by decide) (L_load rfl (xb2 ty_27)) ?_)
            refine u_any 4 [] ⟨?_,trivial⟩
            refine u_op 4 rfl rfl (xe2 rfl rfl rfl ca_76 (c_spec_l4Value_fpv l i4 h4 Y p hb hi4 (by omega)) ?_)
            rintro r S ⟨v,i5,h5,⟨rfl,rfl⟩,hi5⟩
            refine u_pure 5 rfl rfl rfl (L_min rfl rfl rfl) ?_
            refine u_pure 6 rfl rfl rfl (L_max rfl rfl rfl) ?_
            refine u_any 8 [] ⟨?_,trivial⟩
            refine u_op 8 rfl rfl (xe2 rfl rfl rfl ca_114 (c_spec_l1Below l i5 h5 9 _ hb hi5 (by decide)) ?_)
            rintro r S ⟨x6,i6,h6,⟨rfl,rfl⟩,hi6,hx6⟩
            refine u_pure 9 rfl rfl rfl xb3 ?_
            refine u_pure 10 rfl rfl rfl (L_build rfl bd_60 rfl rfl) ?_
            refine u_any 11 [] ⟨?_,trivial⟩
            refine u_call 11 rfl rfl rfl rfl rfl ca_32 (c_spec_AddInsert Y p (clampI v,20+x6) (by omega)) ?_
            rintro r S ⟨rfl,rfl⟩
            refine u_pure 12 rfl rfl rfl (L_move rfl) ?_
            refine u_pure 13 rfl rfl rfl (L_extract rfl rfl) ?_
            refine u_pure 14 rfl rfl rfl (L_extract rfl rfl) ?_
            refine u_any 15 [] ⟨?_,trivial⟩
            refine u_op 15 rfl rfl (EOp_store rfl rfl rfl (xb1 ty_58) ?_)
            refine u_done ?_
            refine G_region' (L:=[0,1,2]) rfl ?_
            refine xmv ?_
            refine x_pure rfl rfl rfl xb4 ?_
            refine xas ?_
            refine EOps_nil ?_
            refine⟨[7,8,12,13,11],rfl,(n - 1,addIr Y p (clampI v,20+x6),i6,h6),?_,?_,rfl,⟨.inr (int_eq (by first|omega|(dsimp only;omega))),trivial⟩,⟨.inr rfl,.inr rfl,.inr rfl,.inr rfl,.inr rfl,trivial⟩⟩
            · dsimp only;omega
            · first
                | exact⟨by have:=delR_small Y p x5;dsimp only;omega,by have:=delR_small Y p x5;dsimp only;omega,by assumption⟩
                | exact⟨by have:=addIr_small Y p (clampI v,20+x6);dsimp only;omega,by have:=addIr_small Y p (clampI v,20+x6);dsimp only;omega,by assumption⟩
          · refine u_op 4 rfl rfl (xe2 rfl rfl rfl ca_76 (c_spec_l4Value_fpv l i4 h4 Y p hb hi4 (by omega)) ?_)
            rintro r S ⟨v,i5,h5,⟨rfl,rfl⟩,hi5⟩
            refine u_pure 5 rfl rfl rfl (L_min rfl rfl rfl) ?_
            refine u_pure 6 rfl rfl rfl (L_max rfl rfl rfl) ?_
            refine u_any 0 [8] ⟨?_,?_,trivial⟩
            · refine u_op 0 rfl rfl (EOp_light rfl (by decide) (L_load rfl (xb2 ty_27)) ?_)
              refine u_any 8 [] ⟨?_,trivial⟩
              refine u_op 8 rfl rfl (xe2 rfl rfl rfl ca_114 (c_spec_l1Below l i5 h5 9 _ hb hi5 (by decide)) ?_)
              rintro r S ⟨x6,i6,h6,⟨rfl,rfl⟩,hi6,hx6⟩
              refine u_pure 9 rfl rfl rfl xb3 ?_
              refine u_pure 10 rfl rfl rfl (L_build rfl bd_60 rfl rfl) ?_
              refine u_any 11 [] ⟨?_,trivial⟩
              refine u_call 11 rfl rfl rfl rfl rfl ca_32 (c_spec_AddInsert Y p (clampI v,20+x6) (by omega)) ?_
              rintro r S ⟨rfl,rfl⟩
              refine u_pure 12 rfl rfl rfl (L_move rfl) ?_
              refine u_pure 13 rfl rfl rfl (L_extract rfl rfl) ?_
              refine u_pure 14 rfl rfl rfl (L_extract rfl rfl) ?_
              refine u_any 15 [] ⟨?_,trivial⟩
              refine u_op 15 rfl rfl (EOp_store rfl rfl rfl (xb1 ty_58) ?_)
              refine u_done ?_
              refine G_region' (L:=[0,1,2]) rfl ?_
              refine xmv ?_
              refine x_pure rfl rfl rfl xb4 ?_
              refine xas ?_
              refine EOps_nil ?_
              refine⟨[7,8,12,13,11],rfl,(n - 1,addIr Y p (clampI v,20+x6),i6,h6),?_,?_,rfl,⟨.inr (int_eq (by first|omega|(dsimp only;omega))),trivial⟩,⟨.inr rfl,.inr rfl,.inr rfl,.inr rfl,.inr rfl,trivial⟩⟩
              · dsimp only;omega
              · first
                  | exact⟨by have:=delR_small Y p x5;dsimp only;omega,by have:=delR_small Y p x5;dsimp only;omega,by assumption⟩
                  | exact⟨by have:=addIr_small Y p (clampI v,20+x6);dsimp only;omega,by have:=addIr_small Y p (clampI v,20+x6);dsimp only;omega,by assumption⟩
            · refine u_op 8 rfl rfl (xe2 rfl rfl rfl ca_114 (c_spec_l1Below l i5 h5 9 _ hb hi5 (by decide)) ?_)
              rintro r S ⟨x6,i6,h6,⟨rfl,rfl⟩,hi6,hx6⟩
              refine u_pure 9 rfl rfl rfl xb3 ?_
              refine u_pure 10 rfl rfl rfl (L_build rfl bd_60 rfl rfl) ?_
              refine u_any 0 [] ⟨?_,trivial⟩
              refine u_op 0 rfl rfl (EOp_light rfl (by decide) (L_load rfl (xb0 ty_27)) ?_)
              refine u_any 11 [] ⟨?_,trivial⟩
              refine u_call 11 rfl rfl rfl rfl rfl ca_32 (c_spec_AddInsert Y p (clampI v,20+x6) (by omega)) ?_
              rintro r S ⟨rfl,rfl⟩
              refine u_pure 12 rfl rfl rfl (L_move rfl) ?_
              refine u_pure 13 rfl rfl rfl (L_extract rfl rfl) ?_
              refine u_pure 14 rfl rfl rfl (L_extract rfl rfl) ?_
              refine u_any 15 [] ⟨?_,trivial⟩
              refine u_op 15 rfl rfl (EOp_store rfl rfl rfl (xb1 ty_58) ?_)
              refine u_done ?_
              refine G_region' (L:=[0,1,2]) rfl ?_
              refine xmv ?_
              refine x_pure rfl rfl rfl xb4 ?_
              refine xas ?_
              refine EOps_nil ?_
              refine⟨[7,8,12,13,11],rfl,(n - 1,addIr Y p (clampI v,20+x6),i6,h6),?_,?_,rfl,⟨.inr (int_eq (by first|omega|(dsimp only;omega))),trivial⟩,⟨.inr rfl,.inr rfl,.inr rfl,.inr rfl,.inr rfl,trivial⟩⟩
              · dsimp only;omega
              · first
                  | exact⟨by have:=delR_small Y p x5;dsimp only;omega,by have:=delR_small Y p x5;dsimp only;omega,by assumption⟩
                  | exact⟨by have:=addIr_small Y p (clampI v,20+x6);dsimp only;omega,by have:=addIr_small Y p (clampI v,20+x6);dsimp only;omega,by assumption⟩
      · refine u_op 3 rfl rfl (EOp_light rfl (by decide) (L_load rfl (xb2 ty_27)) ?_)
        refine u_any 0 [1,4] ⟨?_,?_,?_,trivial⟩
        · refine u_op 0 rfl rfl (EOp_light rfl (by decide) (L_load rfl (xb2 ty_27)) ?_)
          refine u_any 1 [4] ⟨?_,?_,trivial⟩
          · refine u_op 1 rfl rfl (EOp_light rfl (by decide) (L_load rfl (xb2 ty_58)) ?_)
            refine u_any 4 [] ⟨?_,trivial⟩
            refine u_op 4 rfl rfl (xe2 rfl rfl rfl ca_76 (c_spec_l4Value_fpv l i4 h4 Y p hb hi4 (by omega)) ?_)
            rintro r S ⟨v,i5,h5,⟨rfl,rfl⟩,hi5⟩
            refine u_pure 5 rfl rfl rfl (L_min rfl rfl rfl) ?_
            refine u_pure 6 rfl rfl rfl (L_max rfl rfl rfl) ?_
            refine u_any 8 [] ⟨?_,trivial⟩
            refine u_op 8 rfl rfl (xe2 rfl rfl rfl ca_114 (c_spec_l1Below l i5 h5 9 _ hb hi5 (by decide)) ?_)
            rintro r S ⟨x6,i6,h6,⟨rfl,rfl⟩,hi6,hx6⟩
            refine u_pure 9 rfl rfl rfl xb3 ?_
            refine u_pure 10 rfl rfl rfl (L_build rfl bd_60 rfl rfl) ?_
            refine u_any 11 [] ⟨?_,trivial⟩
            refine u_call 11 rfl rfl rfl rfl rfl ca_32 (c_spec_AddInsert Y p (clampI v,20+x6) (by omega)) ?_
            rintro r S ⟨rfl,rfl⟩
            refine u_pure 12 rfl rfl rfl (L_move rfl) ?_
            refine u_pure 13 rfl rfl rfl (L_extract rfl rfl) ?_
            refine u_pure 14 rfl rfl rfl (L_extract rfl rfl) ?_
            refine u_any 15 [] ⟨?_,trivial⟩
            refine u_op 15 rfl rfl (EOp_store rfl rfl rfl (xb1 ty_58) ?_)
            refine u_done ?_
            refine G_region' (L:=[0,1,2]) rfl ?_
            refine xmv ?_
            refine x_pure rfl rfl rfl xb4 ?_
            refine xas ?_
            refine EOps_nil ?_
            refine⟨[7,8,12,13,11],rfl,(n - 1,addIr Y p (clampI v,20+x6),i6,h6),?_,?_,rfl,⟨.inr (int_eq (by first|omega|(dsimp only;omega))),trivial⟩,⟨.inr rfl,.inr rfl,.inr rfl,.inr rfl,.inr rfl,trivial⟩⟩
            · dsimp only;omega
            · first
                | exact⟨by have:=delR_small Y p x5;dsimp only;omega,by have:=delR_small Y p x5;dsimp only;omega,by assumption⟩
                | exact⟨by have:=addIr_small Y p (clampI v,20+x6);dsimp only;omega,by have:=addIr_small Y p (clampI v,20+x6);dsimp only;omega,by assumption⟩
          · refine u_op 4 rfl rfl (xe2 rfl rfl rfl ca_76 (c_spec_l4Value_fpv l i4 h4 Y p hb hi4 (by omega)) ?_)
            rintro r S ⟨v,i5,h5,⟨rfl,rfl⟩,hi5⟩
            refine u_pure 5 rfl rfl rfl (L_min rfl rfl rfl) ?_
            refine u_pure 6 rfl rfl rfl (L_max rfl rfl rfl) ?_
            refine u_any 1 [8] ⟨?_,?_,trivial⟩
            · refine u_op 1 rfl rfl (EOp_light rfl (by decide) (L_load rfl (xb2 ty_58)) ?_)
              refine u_any 8 [] ⟨?_,trivial⟩
              refine u_op 8 rfl rfl (xe2 rfl rfl rfl ca_114 (c_spec_l1Below l i5 h5 9 _ hb hi5 (by decide)) ?_)
              rintro r S ⟨x6,i6,h6,⟨rfl,rfl⟩,hi6,hx6⟩
              refine u_pure 9 rfl rfl rfl xb3 ?_
              refine u_pure 10 rfl rfl rfl (L_build rfl bd_60 rfl rfl) ?_
              refine u_any 11 [] ⟨?_,trivial⟩
              refine u_call 11 rfl rfl rfl rfl rfl ca_32 (c_spec_AddInsert Y p (clampI v,20+x6) (by omega)) ?_
              rintro r S ⟨rfl,rfl⟩
              refine u_pure 12 rfl rfl rfl (L_move rfl) ?_
              refine u_pure 13 rfl rfl rfl (L_extract rfl rfl) ?_
              refine u_pure 14 rfl rfl rfl (L_extract rfl rfl) ?_
              refine u_any 15 [] ⟨?_,trivial⟩
              refine u_op 15 rfl rfl (EOp_store rfl rfl rfl (xb1 ty_58) ?_)
              refine u_done ?_
              refine G_region' (L:=[0,1,2]) rfl ?_
              refine xmv ?_
              refine x_pure rfl rfl rfl xb4 ?_
              refine xas ?_
              refine EOps_nil ?_
              refine⟨[7,8,12,13,11],rfl,(n - 1,addIr Y p (clampI v,20+x6),i6,h6),?_,?_,rfl,⟨.inr (int_eq (by first|omega|(dsimp only;omega))),trivial⟩,⟨.inr rfl,.inr rfl,.inr rfl,.inr rfl,.inr rfl,trivial⟩⟩
              · dsimp only;omega
              · first
                  | exact⟨by have:=delR_small Y p x5;dsimp only;omega,by have:=delR_small Y p x5;dsimp only;omega,by assumption⟩
                  | exact⟨by have:=addIr_small Y p (clampI v,20+x6);dsimp only;omega,by have:=addIr_small Y p (clampI v,20+x6);dsimp only;omega,by assumption⟩
            · refine u_op 8 rfl rfl (xe2 rfl rfl rfl ca_114 (c_spec_l1Below l i5 h5 9 _ hb hi5 (by decide)) ?_)
              rintro r S ⟨x6,i6,h6,⟨rfl,rfl⟩,hi6,hx6⟩
              refine u_pure 9 rfl rfl rfl xb3 ?_
              refine u_pure 10 rfl rfl rfl (L_build rfl bd_60 rfl rfl) ?_
              refine u_any 1 [] ⟨?_,trivial⟩
              refine u_op 1 rfl rfl (EOp_light rfl (by decide) (L_load rfl (xb0 ty_58)) ?_)
              refine u_any 11 [] ⟨?_,trivial⟩
              refine u_call 11 rfl rfl rfl rfl rfl ca_32 (c_spec_AddInsert Y p (clampI v,20+x6) (by omega)) ?_
              rintro r S ⟨rfl,rfl⟩
              refine u_pure 12 rfl rfl rfl (L_move rfl) ?_
              refine u_pure 13 rfl rfl rfl (L_extract rfl rfl) ?_
              refine u_pure 14 rfl rfl rfl (L_extract rfl rfl) ?_
              refine u_any 15 [] ⟨?_,trivial⟩
              refine u_op 15 rfl rfl (EOp_store rfl rfl rfl (xb1 ty_58) ?_)
              refine u_done ?_
              refine G_region' (L:=[0,1,2]) rfl ?_
              refine xmv ?_
              refine x_pure rfl rfl rfl xb4 ?_
              refine xas ?_
              refine EOps_nil ?_
              refine⟨[7,8,12,13,11],rfl,(n - 1,addIr Y p (clampI v,20+x6),i6,h6),?_,?_,rfl,⟨.inr (int_eq (by first|omega|(dsimp only;omega))),trivial⟩,⟨.inr rfl,.inr rfl,.inr rfl,.inr rfl,.inr rfl,trivial⟩⟩
              · dsimp only;omega
              · first
                  | exact⟨by have:=delR_small Y p x5;dsimp only;omega,by have:=delR_small Y p x5;dsimp only;omega,by assumption⟩
                  | exact⟨by have:=addIr_small Y p (clampI v,20+x6);dsimp only;omega,by have:=addIr_small Y p (clampI v,20+x6);dsimp only;omega,by assumption⟩
        · refine u_op 1 rfl rfl (EOp_light rfl (by decide) (L_load rfl (xb2 ty_58)) ?_)
          refine u_any 0 [4] ⟨?_,?_,trivial⟩
          · refine u_op 0 rfl rfl (EOp_light rfl (by decide) (L_load rfl (xb2 ty_27)) ?_)
            refine u_any 4 [] ⟨?_,trivial⟩
            refine u_op 4 rfl rfl (xe2 rfl rfl rfl ca_76 (c_spec_l4Value_fpv l i4 h4 Y p hb hi4 (by omega)) ?_)
            rintro r S ⟨v,i5,h5,⟨rfl,rfl⟩,hi5⟩
            refine u_pure 5 rfl rfl rfl (L_min rfl rfl rfl) ?_
            refine u_pure 6 rfl rfl rfl (L_max rfl rfl rfl) ?_
            refine u_any 8 [] ⟨?_,trivial⟩
            refine u_op 8 rfl rfl (xe2 rfl rfl rfl ca_114 (c_spec_l1Below l i5 h5 9 _ hb hi5 (by decide)) ?_)
            rintro r S ⟨x6,i6,h6,⟨rfl,rfl⟩,hi6,hx6⟩
            refine u_pure 9 rfl rfl rfl xb3 ?_
            refine u_pure 10 rfl rfl rfl (L_build rfl bd_60 rfl rfl) ?_
            refine u_any 11 [] ⟨?_,trivial⟩
            refine u_call 11 rfl rfl rfl rfl rfl ca_32 (c_spec_AddInsert Y p (clampI v,20+x6) (by omega)) ?_
            rintro r S ⟨rfl,rfl⟩
            refine u_pure 12 rfl rfl rfl (L_move rfl) ?_
            refine u_pure 13 rfl rfl rfl (L_extract rfl rfl) ?_
            refine u_pure 14 rfl rfl rfl (L_extract rfl rfl) ?_
            refine u_any 15 [] ⟨?_,trivial⟩
            refine u_op 15 rfl rfl (EOp_store rfl rfl rfl (xb1 ty_58) ?_)
            refine u_done ?_
            refine G_region' (L:=[0,1,2]) rfl ?_
            refine xmv ?_
            refine x_pure rfl rfl rfl xb4 ?_
            refine xas ?_
            refine EOps_nil ?_
            refine⟨[7,8,12,13,11],rfl,(n - 1,addIr Y p (clampI v,20+x6),i6,h6),?_,?_,rfl,⟨.inr (int_eq (by first|omega|(dsimp only;omega))),trivial⟩,⟨.inr rfl,.inr rfl,.inr rfl,.inr rfl,.inr rfl,trivial⟩⟩
            · dsimp only;omega
            · first
                | exact⟨by have:=delR_small Y p x5;dsimp only;omega,by have:=delR_small Y p x5;dsimp only;omega,by assumption⟩
                | exact⟨by have:=addIr_small Y p (clampI v,20+x6);dsimp only;omega,by have:=addIr_small Y p (clampI v,20+x6);dsimp only;omega,by assumption⟩
          · refine u_op 4 rfl rfl (xe2 rfl rfl rfl ca_76 (c_spec_l4Value_fpv l i4 h4 Y p hb hi4 (by omega)) ?_)
            rintro r S ⟨v,i5,h5,⟨rfl,rfl⟩,hi5⟩
            refine u_pure 5 rfl rfl rfl (L_min rfl rfl rfl) ?_
            refine u_pure 6 rfl rfl rfl (L_max rfl rfl rfl) ?_
            refine u_any 0 [8] ⟨?_,?_,trivial⟩
            · refine u_op 0 rfl rfl (EOp_light rfl (by decide) (L_load rfl (xb2 ty_27)) ?_)
              refine u_any 8 [] ⟨?_,trivial⟩
              refine u_op 8 rfl rfl (xe2 rfl rfl rfl ca_114 (c_spec_l1Below l i5 h5 9 _ hb hi5 (by decide)) ?_)
              rintro r S ⟨x6,i6,h6,⟨rfl,rfl⟩,hi6,hx6⟩
              refine u_pure 9 rfl rfl rfl xb3 ?_
              refine u_pure 10 rfl rfl rfl (L_build rfl bd_60 rfl rfl) ?_
              refine u_any 11 [] ⟨?_,trivial⟩
              refine u_call 11 rfl rfl rfl rfl rfl ca_32 (c_spec_AddInsert Y p (clampI v,20+x6) (by omega)) ?_
              rintro r S ⟨rfl,rfl⟩
              refine u_pure 12 rfl rfl rfl (L_move rfl) ?_
              refine u_pure 13 rfl rfl rfl (L_extract rfl rfl) ?_
              refine u_pure 14 rfl rfl rfl (L_extract rfl rfl) ?_
              refine u_any 15 [] ⟨?_,trivial⟩
              refine u_op 15 rfl rfl (EOp_store rfl rfl rfl (xb1 ty_58) ?_)
              refine u_done ?_
              refine G_region' (L:=[0,1,2]) rfl ?_
              refine xmv ?_
              refine x_pure rfl rfl rfl xb4 ?_
              refine xas ?_
              refine EOps_nil ?_
              refine⟨[7,8,12,13,11],rfl,(n - 1,addIr Y p (clampI v,20+x6),i6,h6),?_,?_,rfl,⟨.inr (int_eq (by first|omega|(dsimp only;omega))),trivial⟩,⟨.inr rfl,.inr rfl,.inr rfl,.inr rfl,.inr rfl,trivial⟩⟩
              · dsimp only;omega
              · first
                  | exact⟨by have:=delR_small Y p x5;dsimp only;omega,by have:=delR_small Y p x5;dsimp only;omega,by assumption⟩
                  | exact⟨by have:=addIr_small Y p (clampI v,20+x6);dsimp only;omega,by have:=addIr_small Y p (clampI v,20+x6);dsimp only;omega,by assumption⟩
            · refine u_op 8 rfl rfl (xe2 rfl rfl rfl ca_114 (c_spec_l1Below l i5 h5 9 _ hb hi5 (by decide)) ?_)
              rintro r S ⟨x6,i6,h6,⟨rfl,rfl⟩,hi6,hx6⟩
              refine u_pure 9 rfl rfl rfl xb3 ?_
              refine u_pure 10 rfl rfl rfl (L_build rfl bd_60 rfl rfl) ?_
              refine u_any 0 [] ⟨?_,trivial⟩
              refine u_op 0 rfl rfl (EOp_light rfl (by decide) (L_load rfl (xb0 ty_27)) ?_)
              refine u_any 11 [] ⟨?_,trivial⟩
              refine u_call 11 rfl rfl rfl rfl rfl ca_32 (c_spec_AddInsert Y p (clampI v,20+x6) (by omega)) ?_
              rintro r S ⟨rfl,rfl⟩
              refine u_pure 12 rfl rfl rfl (L_move rfl) ?_
              refine u_pure 13 rfl rfl rfl (L_extract rfl rfl) ?_
              refine u_pure 14 rfl rfl rfl (L_extract rfl rfl) ?_
              refine u_any 15 [] ⟨?_,trivial⟩
              refine u_op 15 rfl rfl (EOp_store rfl rfl rfl (xb1 ty_58) ?_)
              refine u_done ?_
              refine G_region' (L:=[0,1,2]) rfl ?_
              refine xmv ?_
              refine x_pure rfl rfl rfl xb4 ?_
              refine xas ?_
              refine EOps_nil ?_
              refine⟨[7,8,12,13,11],rfl,(n - 1,addIr Y p (clampI v,20+x6),i6,h6),?_,?_,rfl,⟨.inr (int_eq (by first|omega|(dsimp only;omega))),trivial⟩,⟨.inr rfl,.inr rfl,.inr rfl,.inr rfl,.inr rfl,trivial⟩⟩
              · dsimp only;omega
              · first
                  | exact⟨by have:=delR_small Y p x5;dsimp only;omega,by have:=delR_small Y p x5;dsimp only;omega,by assumption⟩
                  | exact⟨by have:=addIr_small Y p (clampI v,20+x6);dsimp only;omega,by have:=addIr_small Y p (clampI v,20+x6);dsimp only;omega,by assumption⟩
        · refine u_op 4 rfl rfl (xe2 rfl rfl rfl ca_76 (c_spec_l4Value_fpv l i4 h4 Y p hb hi4 (by omega)) ?_)
          rintro r S ⟨v,i5,h5,⟨rfl,rfl⟩,hi5⟩
          refine u_pure 5 rfl rfl rfl (L_min rfl rfl rfl) ?_
          refine u_pure 6 rfl rfl rfl (L_max rfl rfl rfl) ?_
          refine u_any 0 [1,8] ⟨?_,?_,?_,trivial⟩
          · refine u_op 0 rfl rfl (EOp_light rfl (by decide) (L_load rfl (xb2 ty_27)) ?_)
            refine u_any 1 [8] ⟨?_,?_,trivial⟩
            · refine u_op 1 rfl rfl (EOp_light rfl (by decide) (L_load rfl (xb2 ty_58)) ?_)
              refine u_any 8 [] ⟨?_,trivial⟩
              refine u_op 8 rfl rfl (xe2 rfl rfl rfl ca_114 (c_spec_l1Below l i5 h5 9 _ hb hi5 (by decide)) ?_)
              rintro r S ⟨x6,i6,h6,⟨rfl,rfl⟩,hi6,hx6⟩
              refine u_pure 9 rfl rfl rfl xb3 ?_
              refine u_pure 10 rfl rfl rfl (L_build rfl bd_60 rfl rfl) ?_
              refine u_any 11 [] ⟨?_,trivial⟩
              refine u_call 11 rfl rfl rfl rfl rfl ca_32 (c_spec_AddInsert Y p (clampI v,20+x6) (by omega)) ?_
              rintro r S ⟨rfl,rfl⟩
              refine u_pure 12 rfl rfl rfl (L_move rfl) ?_
              refine u_pure 13 rfl rfl rfl (L_extract rfl rfl) ?_
              refine u_pure 14 rfl rfl rfl (L_extract rfl rfl) ?_
              refine u_any 15 [] ⟨?_,trivial⟩
              refine u_op 15 rfl rfl (EOp_store rfl rfl rfl (xb1 ty_58) ?_)
              refine u_done ?_
              refine G_region' (L:=[0,1,2]) rfl ?_
              refine xmv ?_
              refine x_pure rfl rfl rfl xb4 ?_
              refine xas ?_
              refine EOps_nil ?_
              refine⟨[7,8,12,13,11],rfl,(n - 1,addIr Y p (clampI v,20+x6),i6,h6),?_,?_,rfl,⟨.inr (int_eq (by first|omega|(dsimp only;omega))),trivial⟩,⟨.inr rfl,.inr rfl,.inr rfl,.inr rfl,.inr rfl,trivial⟩⟩
              · dsimp only;omega
              · first
                  | exact⟨by have:=delR_small Y p x5;dsimp only;omega,by have:=delR_small Y p x5;dsimp only;omega,by assumption⟩
                  | exact⟨by have:=addIr_small Y p (clampI v,20+x6);dsimp only;omega,by have:=addIr_small Y p (clampI v,20+x6);dsimp only;omega,by assumption⟩
            · refine u_op 8 rfl rfl (xe2 rfl rfl rfl ca_114 (c_spec_l1Below l i5 h5 9 _ hb hi5 (by decide)) ?_)
              rintro r S ⟨x6,i6,h6,⟨rfl,rfl⟩,hi6,hx6⟩
              refine u_pure 9 rfl rfl rfl xb3 ?_
              refine u_pure 10 rfl rfl rfl (L_build rfl bd_60 rfl rfl) ?_
              refine u_any 1 [] ⟨?_,trivial⟩
              refine u_op 1 rfl rfl (EOp_light rfl (by decide) (L_load rfl (xb0 ty_58)) ?_)
              refine u_any 11 [] ⟨?_,trivial⟩
              refine u_call 11 rfl rfl rfl rfl rfl ca_32 (c_spec_AddInsert Y p (clampI v,20+x6) (by omega)) ?_
              rintro r S ⟨rfl,rfl⟩
              refine u_pure 12 rfl rfl rfl (L_move rfl) ?_
              refine u_pure 13 rfl rfl rfl (L_extract rfl rfl) ?_
              refine u_pure 14 rfl rfl rfl (L_extract rfl rfl) ?_
              refine u_any 15 [] ⟨?_,trivial⟩
              refine u_op 15 rfl rfl (EOp_store rfl rfl rfl (xb1 ty_58) ?_)
              refine u_done ?_
              refine G_region' (L:=[0,1,2]) rfl ?_
              refine xmv ?_
              refine x_pure rfl rfl rfl xb4 ?_
              refine xas ?_
              refine EOps_nil ?_
              refine⟨[7,8,12,13,11],rfl,(n - 1,addIr Y p (clampI v,20+x6),i6,h6),?_,?_,rfl,⟨.inr (int_eq (by first|omega|(dsimp only;omega))),trivial⟩,⟨.inr rfl,.inr rfl,.inr rfl,.inr rfl,.inr rfl,trivial⟩⟩
              · dsimp only;omega
              · first
                  | exact⟨by have:=delR_small Y p x5;dsimp only;omega,by have:=delR_small Y p x5;dsimp only;omega,by assumption⟩
                  | exact⟨by have:=addIr_small Y p (clampI v,20+x6);dsimp only;omega,by have:=addIr_small Y p (clampI v,20+x6);dsimp only;omega,by assumption⟩
          · refine u_op 1 rfl rfl (EOp_light rfl (by decide) (L_load rfl (xb2 ty_58)) ?_)
            refine u_any 0 [8] ⟨?_,?_,trivial⟩
            · refine u_op 0 rfl rfl (EOp_light rfl (by decide) (L_load rfl (xb2 ty_27)) ?_)
              refine u_any 8 [] ⟨?_,trivial⟩
              refine u_op 8 rfl rfl (xe2 rfl rfl rfl ca_114 (c_spec_l1Below l i5 h5 9 _ hb hi5 (by decide)) ?_)
              rintro r S ⟨x6,i6,h6,⟨rfl,rfl⟩,hi6,hx6⟩
              refine u_pure 9 rfl rfl rfl xb3 ?_
              refine u_pure 10 rfl rfl rfl (L_build rfl bd_60 rfl rfl) ?_
              refine u_any 11 [] ⟨?_,trivial⟩
              refine u_call 11 rfl rfl rfl rfl rfl ca_32 (c_spec_AddInsert Y p (clampI v,20+x6) (by omega)) ?_
              rintro r S ⟨rfl,rfl⟩
              refine u_pure 12 rfl rfl rfl (L_move rfl) ?_
              refine u_pure 13 rfl rfl rfl (L_extract rfl rfl) ?_
              refine u_pure 14 rfl rfl rfl (L_extract rfl rfl) ?_
              refine u_any 15 [] ⟨?_,trivial⟩
              refine u_op 15 rfl rfl (EOp_store rfl rfl rfl (xb1 ty_58) ?_)
              refine u_done ?_
              refine G_region' (L:=[0,1,2]) rfl ?_
              refine xmv ?_
              refine x_pure rfl rfl rfl xb4 ?_
              refine xas ?_
              refine EOps_nil ?_
              refine⟨[7,8,12,13,11],rfl,(n - 1,addIr Y p (clampI v,20+x6),i6,h6),?_,?_,rfl,⟨.inr (int_eq (by first|omega|(dsimp only;omega))),trivial⟩,⟨.inr rfl,.inr rfl,.inr rfl,.inr rfl,.inr rfl,trivial⟩⟩
              · dsimp only;omega
              · first
                  | exact⟨by have:=delR_small Y p x5;dsimp only;omega,by have:=delR_small Y p x5;dsimp only;omega,by assumption⟩
                  | exact⟨by have:=addIr_small Y p (clampI v,20+x6);dsimp only;omega,by have:=addIr_small Y p (clampI v,20+x6);dsimp only;omega,by assumption⟩
            · refine u_op 8 rfl rfl (xe2 rfl rfl rfl ca_114 (c_spec_l1Below l i5 h5 9 _ hb hi5 (by decide)) ?_)
              rintro r S ⟨x6,i6,h6,⟨rfl,rfl⟩,hi6,hx6⟩
              refine u_pure 9 rfl rfl rfl xb3 ?_
              refine u_pure 10 rfl rfl rfl (L_build rfl bd_60 rfl rfl) ?_
              refine u_any 0 [] ⟨?_,trivial⟩
              refine u_op 0 rfl rfl (EOp_light rfl (by decide) (L_load rfl (xb0 ty_27)) ?_)
              refine u_any 11 [] ⟨?_,trivial⟩
              refine u_call 11 rfl rfl rfl rfl rfl ca_32 (c_spec_AddInsert Y p (clampI v,20+x6) (by omega)) ?_
              rintro r S ⟨rfl,rfl⟩
              refine u_pure 12 rfl rfl rfl (L_move rfl) ?_
              refine u_pure 13 rfl rfl rfl (L_extract rfl rfl) ?_
              refine u_pure 14 rfl rfl rfl (L_extract rfl rfl) ?_
              refine u_any 15 [] ⟨?_,trivial⟩
              refine u_op 15 rfl rfl (EOp_store rfl rfl rfl (xb1 ty_58) ?_)
              refine u_done ?_
              refine G_region' (L:=[0,1,2]) rfl ?_
              refine xmv ?_
              refine x_pure rfl rfl rfl xb4 ?_
              refine xas ?_
              refine EOps_nil ?_
              refine⟨[7,8,12,13,11],rfl,(n - 1,addIr Y p (clampI v,20+x6),i6,h6),?_,?_,rfl,⟨.inr (int_eq (by first|omega|(dsimp only;omega))),trivial⟩,⟨.inr rfl,.inr rfl,.inr rfl,.inr rfl,.inr rfl,trivial⟩⟩
              · dsimp only;omega
              · first
                  | exact⟨by have:=delR_small Y p x5;dsimp only;omega,by have:=delR_small Y p x5;dsimp only;omega,by assumption⟩
                  | exact⟨by have:=addIr_small Y p (clampI v,20+x6);dsimp only;omega,by have:=addIr_small Y p (clampI v,20+x6);dsimp only;omega,by assumption⟩
          · refine u_op 8 rfl rfl (xe2 rfl rfl rfl ca_114 (c_spec_l1Below l i5 h5 9 _ hb hi5 (by decide)) ?_)
            rintro r S ⟨x6,i6,h6,⟨rfl,rfl⟩,hi6,hx6⟩
            refine u_pure 9 rfl rfl rfl xb3 ?_
            refine u_pure 10 rfl rfl rfl (L_build rfl bd_60 rfl rfl) ?_
            refine u_any 0 [1] ⟨?_,?_,trivial⟩
            · refine u_op 0 rfl rfl (EOp_light rfl (by decide) (L_load rfl (xb2 ty_27)) ?_)
              refine u_any 1 [] ⟨?_,trivial⟩
              refine u_op 1 rfl rfl (EOp_light rfl (by decide) (L_load rfl (xb0 ty_58)) ?_)
              refine u_any 11 [] ⟨?_,trivial⟩
              refine u_call 11 rfl rfl rfl rfl rfl ca_32 (c_spec_AddInsert Y p (clampI v,20+x6) (by omega)) ?_
              rintro r S ⟨rfl,rfl⟩
              refine u_pure 12 rfl rfl rfl (L_move rfl) ?_
              refine u_pure 13 rfl rfl rfl (L_extract rfl rfl) ?_
              refine u_pure 14 rfl rfl rfl (L_extract rfl rfl) ?_
              refine u_any 15 [] ⟨?_,trivial⟩
              refine u_op 15 rfl rfl (EOp_store rfl rfl rfl (xb1 ty_58) ?_)
              refine u_done ?_
              refine G_region' (L:=[0,1,2]) rfl ?_
              refine xmv ?_
              refine x_pure rfl rfl rfl xb4 ?_
              refine xas ?_
              refine EOps_nil ?_
              refine⟨[7,8,12,13,11],rfl,(n - 1,addIr Y p (clampI v,20+x6),i6,h6),?_,?_,rfl,⟨.inr (int_eq (by first|omega|(dsimp only;omega))),trivial⟩,⟨.inr rfl,.inr rfl,.inr rfl,.inr rfl,.inr rfl,trivial⟩⟩
              · dsimp only;omega
              · first
                  | exact⟨by have:=delR_small Y p x5;dsimp only;omega,by have:=delR_small Y p x5;dsimp only;omega,by assumption⟩
                  | exact⟨by have:=addIr_small Y p (clampI v,20+x6);dsimp only;omega,by have:=addIr_small Y p (clampI v,20+x6);dsimp only;omega,by assumption⟩
            · refine u_op 1 rfl rfl (EOp_light rfl (by decide) (L_load rfl (xb2 ty_58)) ?_)
              refine u_any 0 [] ⟨?_,trivial⟩
              refine u_op 0 rfl rfl (EOp_light rfl (by decide) (L_load rfl (xb0 ty_27)) ?_)
              refine u_any 11 [] ⟨?_,trivial⟩
              refine u_call 11 rfl rfl rfl rfl rfl ca_32 (c_spec_AddInsert Y p (clampI v,20+x6) (by omega)) ?_
              rintro r S ⟨rfl,rfl⟩
              refine u_pure 12 rfl rfl rfl (L_move rfl) ?_
              refine u_pure 13 rfl rfl rfl (L_extract rfl rfl) ?_
              refine u_pure 14 rfl rfl rfl (L_extract rfl rfl) ?_
              refine u_any 15 [] ⟨?_,trivial⟩
              refine u_op 15 rfl rfl (EOp_store rfl rfl rfl (xb1 ty_58) ?_)
              refine u_done ?_
              refine G_region' (L:=[0,1,2]) rfl ?_
              refine xmv ?_
              refine x_pure rfl rfl rfl xb4 ?_
              refine xas ?_
              refine EOps_nil ?_
              refine⟨[7,8,12,13,11],rfl,(n - 1,addIr Y p (clampI v,20+x6),i6,h6),?_,?_,rfl,⟨.inr (int_eq (by first|omega|(dsimp only;omega))),trivial⟩,⟨.inr rfl,.inr rfl,.inr rfl,.inr rfl,.inr rfl,trivial⟩⟩
              · dsimp only;omega
              · first
                  | exact⟨by have:=delR_small Y p x5;dsimp only;omega,by have:=delR_small Y p x5;dsimp only;omega,by assumption⟩
                  | exact⟨by have:=addIr_small Y p (clampI v,20+x6);dsimp only;omega,by have:=addIr_small Y p (clampI v,20+x6);dsimp only;omega,by assumption⟩
  · refine G_exit ?_
    refine G_seq ?_
    refine G_seq ?_
    refine g_tidy_A137_8 [0,1,3,4,5,6,11,15] ?_
    refine G_region' (L:=[0,1]) rfl ?_
    refine xmv ?_
    refine EOps_go rfl rfl (xe2 rfl rfl rfl ca_114 (c_spec_l1Below l i3 h3 14 _ hb hi3 (by decide)) ?_)
    rintro r S ⟨x7,i7,h7,⟨rfl,rfl⟩,hi7,hx7⟩
    refine EOps_nil ?_
    refine G_block ?_
    refine G_seq ?_
    refine G_region' (L:=[0,1]) rfl ?_
    refine x_pure rfl rfl rfl (L_bin rfl rfl rfl rfl) ?_
    refine xas ?_
    refine EOps_nil ?_
    refine G_cond rfl (fun hc41=>?_) (fun hc41=>?_)
    · refine g_tidy_A137_8 [0, 1, 3, 4, 5, 6, 11, 15, 40, 41] ?_
      refine G_drawU mixed ?_
      refine u_pure 0 rfl rfl rfl (l_field rfl fo_58_1) ?_
      refine u_pure 2 rfl rfl rfl (L_move rfl) ?_
      refine u_any 1 [3] ⟨?_,?_,trivial⟩
      · refine u_op 1 rfl rfl (EOp_light rfl (by decide) (L_load rfl (xb2 ty_24)) ?_)
        refine u_any 3 [] ⟨?_,trivial⟩
        refine u_op 3 rfl rfl (xe2 rfl rfl rfl ca_114 (c_spec_l1Below l i7 h7 30 _ hb hi7 (by decide)) ?_)
        rintro r S ⟨x8,i8,h8,⟨rfl,rfl⟩,hi8,hx8⟩
        refine u_any 4 [] ⟨?_,trivial⟩
        refine u_op 4 rfl rfl (Heavy.op (H_bslice_ro rfl rfl (by decide) sl_24 ty_3 za_3 ⟨rfl,by decide⟩ (by decide) rfl rfl rfl rfl ?_))
        refine u_any 5 [] ⟨?_,trivial⟩
        refine u_op 5 rfl rfl (EOp_append (news:=ints [x8]) rfl rfl (by decide) sl_24 ty_3 by_3 za_3 ⟨rfl,by decide⟩ rfl (by first|rfl|assumption) xb6 xb7 xb8 xb9 ?_)
        refine u_pure 6 rfl rfl rfl (l_field rfl fo_58_1) ?_
        refine u_any 7 [] ⟨?_,trivial⟩
        refine u_op 7 rfl rfl (EOp_store rfl rfl rfl (xb1 ty_24) ?_)
        refine u_done ?_
        refine G_seq ?_
        refine G_region' (L:=[0,1]) rfl ?_
        refine x_light rfl rfl rfl (L_load rfl (xb0 ty_58)) ?_
        refine EOps_go rfl rfl (EOp_store rfl rfl rfl (xb1 ty_58) ?_)
        refine EOps_nil ?_
        refine G_ret ?_
        first
          | exact⟨_,[9,10],rfl,rfl,p,i7,h7,⟨rfl,rfl⟩,hi7,by omega,by omega⟩
          | (refine ⟨_, [9, 10], rfl, rfl, ⟨p.ins, p.del ++ [x8]⟩, i8, h8, ⟨?_, ?_⟩, hi8, ?_, ?_⟩
             · simp only [pndO,← ints_lenApp];rfl
             · rw [← ints_app];rfl
             · show p.ins.length≤6;omega
             · simp only [List.length_append,List.length_singleton];omega)
          | (refine ⟨_, [9, 10], rfl, rfl, ⟨p.ins ++ [(a9, b9)], p.del⟩, i9, h9, ⟨?_, ?_⟩, hi9, ?_, ?_⟩
             · simp only [pndO,← pairs_lenApp];rfl
             · rw [← pairs_app];rfl
             · simp only [List.length_append,List.length_singleton];omega
             · show p.del.length≤6;omega)
      · refine u_op 3 rfl rfl (xe2 rfl rfl rfl ca_114 (c_spec_l1Below l i7 h7 30 _ hb hi7 (by decide)) ?_)
        rintro r S ⟨x8,i8,h8,⟨rfl,rfl⟩,hi8,hx8⟩
        refine u_any 1 [4] ⟨?_,?_,trivial⟩
        · refine u_op 1 rfl rfl (EOp_light rfl (by decide) (L_load rfl (xb2 ty_24)) ?_)
          refine u_any 4 [] ⟨?_,trivial⟩
          refine u_op 4 rfl rfl (Heavy.op (H_bslice_ro rfl rfl (by decide) sl_24 ty_3 za_3 ⟨rfl,by decide⟩ (by decide) rfl rfl rfl rfl ?_))
          refine u_any 5 [] ⟨?_,trivial⟩
          refine u_op 5 rfl rfl (EOp_append (news:=ints [x8]) rfl rfl (by decide) sl_24 ty_3 by_3 za_3 ⟨rfl,by decide⟩ rfl (by first|rfl|assumption) xb6 xb7 xb8 xb9 ?_)
          refine u_pure 6 rfl rfl rfl (l_field rfl fo_58_1) ?_
          refine u_any 7 [] ⟨?_,trivial⟩
          refine u_op 7 rfl rfl (EOp_store rfl rfl rfl (xb1 ty_24) ?_)
          refine u_done ?_
          refine G_seq ?_
          refine G_region' (L:=[0,1]) rfl ?_
          refine x_light rfl rfl rfl (L_load rfl (xb0 ty_58)) ?_
          refine EOps_go rfl rfl (EOp_store rfl rfl rfl (xb1 ty_58) ?_)
          refine EOps_nil ?_
          refine G_ret ?_
          first
            | exact⟨_,[9,10],rfl,rfl,p,i7,h7,⟨rfl,rfl⟩,hi7,by omega,by omega⟩
            | (refine ⟨_, [9, 10], rfl, rfl, ⟨p.ins, p.del ++ [x8]⟩, i8, h8, ⟨?_, ?_⟩, hi8, ?_, ?_⟩
               · simp only [pndO,← ints_lenApp];rfl
               · rw [← ints_app];rfl
               · show p.ins.length≤6;omega
               · simp only [List.length_append,List.length_singleton];omega)
            | (refine ⟨_, [9, 10], rfl, rfl, ⟨p.ins ++ [(a9, b9)], p.del⟩, i9, h9, ⟨?_, ?_⟩, hi9, ?_, ?_⟩
               · simp only [pndO,← pairs_lenApp];rfl
               · rw [← pairs_app];rfl
               · simp only [List.length_append,List.length_singleton];omega
               · show p.del.length≤6;omega)
        · refine u_op 4 rfl rfl (Heavy.op (H_bslice_ro rfl rfl (by decide) sl_24 ty_3 za_3 ⟨rfl, by decide⟩ (by decide) rfl rfl rfl rfl ?_))
          refine u_any 1 [] ⟨?_,trivial⟩
          refine u_op 1 rfl rfl (EOp_light rfl (by decide) (L_load rfl (xb0 ty_24)) ?_)
          refine u_any 5 [] ⟨?_,trivial⟩
          refine u_op 5 rfl rfl (EOp_append (news:=ints [x8]) rfl rfl (by decide) sl_24 ty_3 by_3 za_3 ⟨rfl,by decide⟩ rfl (by first|rfl|assumption) xb6 xb7 xb8 xb9 ?_)
          refine u_pure 6 rfl rfl rfl (l_field rfl fo_58_1) ?_
          refine u_any 7 [] ⟨?_,trivial⟩
          refine u_op 7 rfl rfl (EOp_store rfl rfl rfl (xb1 ty_24) ?_)
          refine u_done ?_
          refine G_seq ?_
          refine G_region' (L:=[0,1]) rfl ?_
          refine x_light rfl rfl rfl (L_load rfl (xb0 ty_58)) ?_
          refine EOps_go rfl rfl (EOp_store rfl rfl rfl (xb1 ty_58) ?_)
          refine EOps_nil ?_
          refine G_ret ?_
          first
            | exact⟨_,[9,10],rfl,rfl,p,i7,h7,⟨rfl,rfl⟩,hi7,by omega,by omega⟩
            | (refine ⟨_, [9, 10], rfl, rfl, ⟨p.ins, p.del ++ [x8]⟩, i8, h8, ⟨?_, ?_⟩, hi8, ?_, ?_⟩
               · simp only [pndO,← ints_lenApp];rfl
               · rw [← ints_app];rfl
               · show p.ins.length≤6;omega
               · simp only [List.length_append,List.length_singleton];omega)
            | (refine ⟨_, [9, 10], rfl, rfl, ⟨p.ins ++ [(a9, b9)], p.del⟩, i9, h9, ⟨?_, ?_⟩, hi9, ?_, ?_⟩
               · simp only [pndO,← pairs_lenApp];rfl
               · rw [← pairs_app];rfl
               · simp only [List.length_append,List.length_singleton];omega
               · show p.del.length≤6;omega)
    · refine G_seq ?_
      refine G_region' (L:=[0,1]) rfl ?_
      refine x_pure rfl rfl rfl (L_bin rfl rfl rfl rfl) ?_
      refine xas ?_
      refine EOps_nil ?_
      refine G_cond rfl (fun hc50=>?_) (fun hc50=>?_)
      · refine g_tidy_A137_8 [0, 1, 3, 4, 5, 6, 11, 15, 40, 41, 50] ?_
        refine G_drawU mixed ?_
        refine u_pure 0 rfl rfl rfl (l_field rfl fo_58_0) ?_
        refine u_pure 2 rfl rfl rfl (L_move rfl) ?_
        refine u_any 1 [3] ⟨?_,?_,trivial⟩
        · refine u_op 1 rfl rfl (EOp_light rfl (by decide) (L_load rfl (xb2 ty_56)) ?_)
          refine u_any 3 [] ⟨?_,trivial⟩
          refine u_op 3 rfl rfl (EOp_light rfl (by decide) (L_load rfl (xb0 ty_27)) ?_)
          refine u_any 4 [] ⟨?_,trivial⟩
          refine u_op 4 rfl rfl (xe2 rfl rfl rfl ca_105 (c_spec_l10Item_fpi l i7 h7 Y p hb hi7 (by omega)) ?_)
          rintro r S ⟨a9,b9,i9,h9,⟨rfl,rfl⟩,hi9⟩
          refine u_any 5 [] ⟨?_,trivial⟩
          refine u_op 5 rfl rfl (Heavy.op (H_bslice_ro rfl rfl (by decide) sl_56 ty_60 za_60 ⟨rfl,by decide⟩ (by decide) rfl rfl rfl rfl ?_))
          refine u_any 6 [] ⟨?_,trivial⟩
          refine u_op 6 rfl rfl (EOp_append (news:=pairs [(a9,b9)]) rfl rfl (by decide) sl_56 ty_60 by_60 za_60 ⟨rfl,by decide⟩ rfl (by first|rfl|assumption) xb6 xb7 xb8 xb9 ?_)
          refine u_pure 7 rfl rfl rfl (l_field rfl fo_58_0) ?_
          refine u_any 8 [] ⟨?_,trivial⟩
          refine u_op 8 rfl rfl (EOp_store rfl rfl rfl (xb1 ty_56) ?_)
          refine u_done ?_
          refine G_seq ?_
          refine G_region' (L:=[0,1]) rfl ?_
          refine x_light rfl rfl rfl (L_load rfl (xb0 ty_58)) ?_
          refine EOps_go rfl rfl (EOp_store rfl rfl rfl (xb1 ty_58) ?_)
          refine EOps_nil ?_
          refine G_ret ?_
          first
            | exact⟨_,[9,10],rfl,rfl,p,i7,h7,⟨rfl,rfl⟩,hi7,by omega,by omega⟩
            | (refine ⟨_, [9, 10], rfl, rfl, ⟨p.ins, p.del ++ [x8]⟩, i8, h8, ⟨?_, ?_⟩, hi8, ?_, ?_⟩
               · simp only [pndO,← ints_lenApp];rfl
               · rw [← ints_app];rfl
               · show p.ins.length≤6;omega
               · simp only [List.length_append,List.length_singleton];omega)
            | (refine ⟨_, [9, 10], rfl, rfl, ⟨p.ins ++ [(a9, b9)], p.del⟩, i9, h9, ⟨?_, ?_⟩, hi9, ?_, ?_⟩
               · simp only [pndO,← pairs_lenApp];rfl
               · rw [← pairs_app];rfl
               · simp only [List.length_append,List.length_singleton];omega
               · show p.del.length≤6;omega)
        · refine u_op 3 rfl rfl (EOp_light rfl (by decide) (L_load rfl (xb2 ty_27)) ?_)
          refine u_any 1 [4] ⟨?_,?_,trivial⟩
          · refine u_op 1 rfl rfl (EOp_light rfl (by decide) (L_load rfl (xb2 ty_56)) ?_)
            refine u_any 4 [] ⟨?_,trivial⟩
            refine u_op 4 rfl rfl (xe2 rfl rfl rfl ca_105 (c_spec_l10Item_fpi l i7 h7 Y p hb hi7 (by omega)) ?_)
            rintro r S ⟨a9,b9,i9,h9,⟨rfl,rfl⟩,hi9⟩
            refine u_any 5 [] ⟨?_,trivial⟩
            refine u_op 5 rfl rfl (Heavy.op (H_bslice_ro rfl rfl (by decide) sl_56 ty_60 za_60 ⟨rfl,by decide⟩ (by decide) rfl rfl rfl rfl ?_))
            refine u_any 6 [] ⟨?_,trivial⟩
            refine u_op 6 rfl rfl (EOp_append (news:=pairs [(a9,b9)]) rfl rfl (by decide) sl_56 ty_60 by_60 za_60 ⟨rfl,by decide⟩ rfl (by first|rfl|assumption) xb6 xb7 xb8 xb9 ?_)
            refine u_pure 7 rfl rfl rfl (l_field rfl fo_58_0) ?_
            refine u_any 8 [] ⟨?_,trivial⟩
            refine u_op 8 rfl rfl (EOp_store rfl rfl rfl (xb1 ty_56) ?_)
            refine u_done ?_
            refine G_seq ?_
            refine G_region' (L:=[0,1]) rfl ?_
            refine x_light rfl rfl rfl (L_load rfl (xb0 ty_58)) ?_
            refine EOps_go rfl rfl (EOp_store rfl rfl rfl (xb1 ty_58) ?_)
            refine EOps_nil ?_
            refine G_ret ?_
            first
              | exact⟨_,[9,10],rfl,rfl,p,i7,h7,⟨rfl,rfl⟩,hi7,by omega,by omega⟩
              | (refine ⟨_, [9, 10], rfl, rfl, ⟨p.ins, p.del ++ [x8]⟩, i8, h8, ⟨?_, ?_⟩, hi8, ?_, ?_⟩
                 · simp only [pndO,← ints_lenApp];rfl
                 · rw [← ints_app];rfl
                 · show p.ins.length≤6;omega
                 · simp only [List.length_append,List.length_singleton];omega)
              | (refine ⟨_, [9, 10], rfl, rfl, ⟨p.ins ++ [(a9, b9)], p.del⟩, i9, h9, ⟨?_, ?_⟩, hi9, ?_, ?_⟩
                 · simp only [pndO,← pairs_lenApp];rfl
                 · rw [← pairs_app];rfl
                 · simp only [List.length_append,List.length_singleton];omega
                 · show p.del.length≤6;omega)
          · refine u_op 4 rfl rfl (xe2 rfl rfl rfl ca_105 (c_spec_l10Item_fpi l i7 h7 Y p hb hi7 (by omega)) ?_)
            rintro r S ⟨a9,b9,i9,h9,⟨rfl,rfl⟩,hi9⟩
            refine u_any 1 [5] ⟨?_,?_,trivial⟩
            · refine u_op 1 rfl rfl (EOp_light rfl (by decide) (L_load rfl (xb2 ty_56)) ?_)
              refine u_any 5 [] ⟨?_,trivial⟩
              refine u_op 5 rfl rfl (Heavy.op (H_bslice_ro rfl rfl (by decide) sl_56 ty_60 za_60 ⟨rfl,by decide⟩ (by decide) rfl rfl rfl rfl ?_))
              refine u_any 6 [] ⟨?_,trivial⟩
              refine u_op 6 rfl rfl (EOp_append (news:=pairs [(a9,b9)]) rfl rfl (by decide) sl_56 ty_60 by_60 za_60 ⟨rfl,by decide⟩ rfl (by first|rfl|assumption) xb6 xb7 xb8 xb9 ?_)
              refine u_pure 7 rfl rfl rfl (l_field rfl fo_58_0) ?_
              refine u_any 8 [] ⟨?_,trivial⟩
              refine u_op 8 rfl rfl (EOp_store rfl rfl rfl (xb1 ty_56) ?_)
              refine u_done ?_
              refine G_seq ?_
              refine G_region' (L:=[0,1]) rfl ?_
              refine x_light rfl rfl rfl (L_load rfl (xb0 ty_58)) ?_
              refine EOps_go rfl rfl (EOp_store rfl rfl rfl (xb1 ty_58) ?_)
              refine EOps_nil ?_
              refine G_ret ?_
              first
                | exact⟨_,[9,10],rfl,rfl,p,i7,h7,⟨rfl,rfl⟩,hi7,by omega,by omega⟩
                | (refine ⟨_, [9, 10], rfl, rfl, ⟨p.ins, p.del ++ [x8]⟩, i8, h8, ⟨?_, ?_⟩, hi8, ?_, ?_⟩
                   · simp only [pndO,← ints_lenApp];rfl
                   · rw [← ints_app];rfl
                   · show p.ins.length≤6;omega
                   · simp only [List.length_append,List.length_singleton];omega)
                | (refine ⟨_, [9, 10], rfl, rfl, ⟨p.ins ++ [(a9, b9)], p.del⟩, i9, h9, ⟨?_, ?_⟩, hi9, ?_, ?_⟩
                   · simp only [pndO,← pairs_lenApp];rfl
                   · rw [← pairs_app];rfl
                   · simp only [List.length_append,List.length_singleton];omega
                   · show p.del.length≤6;omega)
            · refine u_op 5 rfl rfl (Heavy.op (H_bslice_ro rfl rfl (by decide) sl_56 ty_60 za_60 ⟨rfl, by decide⟩ (by decide) rfl rfl rfl rfl ?_))
              refine u_any 1 [] ⟨?_,trivial⟩
              refine u_op 1 rfl rfl (EOp_light rfl (by decide) (L_load rfl (xb0 ty_56)) ?_)
              refine u_any 6 [] ⟨?_,trivial⟩
              refine u_op 6 rfl rfl (EOp_append (news:=pairs [(a9,b9)]) rfl rfl (by decide) sl_56 ty_60 by_60 za_60 ⟨rfl,by decide⟩ rfl (by first|rfl|assumption) xb6 xb7 xb8 xb9 ?_)
              refine u_pure 7 rfl rfl rfl (l_field rfl fo_58_0) ?_
              refine u_any 8 [] ⟨?_,trivial⟩
              refine u_op 8 rfl rfl (EOp_store rfl rfl rfl (xb1 ty_56) ?_)
              refine u_done ?_
              refine G_seq ?_
              refine G_region' (L:=[0,1]) rfl ?_
              refine x_light rfl rfl rfl (L_load rfl (xb0 ty_58)) ?_
              refine EOps_go rfl rfl (EOp_store rfl rfl rfl (xb1 ty_58) ?_)
              refine EOps_nil ?_
              refine G_ret ?_
              first
                | exact⟨_,[9,10],rfl,rfl,p,i7,h7,⟨rfl,rfl⟩,hi7,by omega,by omega⟩
                | (refine ⟨_, [9, 10], rfl, rfl, ⟨p.ins, p.del ++ [x8]⟩, i8, h8, ⟨?_, ?_⟩, hi8, ?_, ?_⟩
                   · simp only [pndO,← ints_lenApp];rfl
                   · rw [← ints_app];rfl
                   · show p.ins.length≤6;omega
                   · simp only [List.length_append,List.length_singleton];omega)
                | (refine ⟨_, [9, 10], rfl, rfl, ⟨p.ins ++ [(a9, b9)], p.del⟩, i9, h9, ⟨?_, ?_⟩, hi9, ?_, ?_⟩
                   · simp only [pndO,← pairs_lenApp];rfl
                   · rw [← pairs_app];rfl
                   · simp only [List.length_append,List.length_singleton];omega
                   · show p.del.length≤6;omega)
      · refine G_skip ?_
        refine G_seq ?_
        refine G_region' (L:=[0,1]) rfl ?_
        refine x_light rfl rfl rfl (L_load rfl (xb0 ty_58)) ?_
        refine EOps_go rfl rfl (EOp_store rfl rfl rfl (xb1 ty_58) ?_)
        refine EOps_nil ?_
        refine G_ret ?_
        first
          | exact⟨_,[9,10],rfl,rfl,p,i7,h7,⟨rfl,rfl⟩,hi7,by omega,by omega⟩
          | (refine ⟨_, [9, 10], rfl, rfl, ⟨p.ins, p.del ++ [x8]⟩, i8, h8, ⟨?_, ?_⟩, hi8, ?_, ?_⟩
             · simp only [pndO,← ints_lenApp];rfl
             · rw [← ints_app];rfl
             · show p.ins.length≤6;omega
             · simp only [List.length_append,List.length_singleton];omega)
          | (refine ⟨_, [9, 10], rfl, rfl, ⟨p.ins ++ [(a9, b9)], p.del⟩, i9, h9, ⟨?_, ?_⟩, hi9, ?_, ?_⟩
             · simp only [pndO,← pairs_lenApp];rfl
             · rw [← pairs_app];rfl
             · simp only [List.length_append,List.length_singleton];omega
             · show p.del.length≤6;omega)

set_option maxRecDepth 20000 in
set_option maxHeartbeats 8000000 in
theorem c_spec_DrawAddDelete (l : List Int) (hb : byL l) : EFn Try.prog 37 [.c (.ro (bytes l))] [] (fun r S => ∃ (Y : Crk) (p : Pnd) (x : Int), (r = .tup [(true, crkO 0 Y), (true, pndO 3 p), (false, [.sc (.int .i64 x)])] ∧ S = crkR 3 129 Y ++ pndR 3 60 p) ∧ Y.vals.length ≤ 14 ∧ Y.rows.length ≤ 15 ∧ Y.piv.length ≤ 5 ∧ p.ins.length ≤ 6 ∧ p.del.length ≤ 6) := by
 refine E_fn Try.func37 rfl (Nat.le_of_ble_eq_true rfl) ?_
 refine E_G (n:=0) rfl ?_
 refine G_seq ?_
 refine G_region' (L:=[0,1,2]) rfl ?_
 refine x_alloc rfl rfl rfl rfl za_27 ?_
 refine x_alloc rfl rfl rfl rfl za_58 ?_
 refine xas ?_
 refine EOps_nil ?_
 refine G_seq ?_
 refine g_tidy_A137_8 [0,2,3,4] ?_
 refine G_region' (L:=[0,1,2]) rfl ?_
 refine xmv ?_
 refine EOps_go rfl rfl (xe1 rfl rfl rfl ca_74 (c_spec_l1New l _ hb) ?_)
 rintro r S ⟨h1,rfl,rfl⟩
 refine xas ?_
 refine EOps_nil ?_
 refine G_seq ?_
 refine G_drop [0,2,3,4,5] [2,0,1] rfl rfl rfl ?_
 refine g_tidy_A137_8 [0,2,3,4,5] ?_
 refine G_region' (L:=[0,1,2,3]) rfl ?_
 refine xmv ?_
 refine EOps_go rfl rfl (xe1 rfl rfl rfl ca_92 (c_spec_l4Any_f l 0 h1 hb (by unfold curOk;omega)) ?_)
 rintro r S ⟨Y,i2,h2,⟨rfl,rfl⟩,hi2,hyv,hyr,hyp⟩
 refine x_alloc rfl rfl rfl rfl za_27 ?_
 refine EOps_go rfl rfl (EOp_store rfl rfl rfl (xb1 ty_27) ?_)
 refine EOps_nil ?_
 refine G_seq ?_
 refine g_tidy_A137_8 [0,2,3,4,5,6] ?_
 refine G_region' (L:=[0,1,2,3,4]) rfl ?_
 refine xmv ?_
 refine x_light rfl rfl rfl (L_load rfl (xb0 ty_27)) ?_
 refine EOps_go rfl rfl (xe2 rfl rfl rfl ca_104 (c_spec_l11Pending_fp l i2 h2 Y hb hi2 (by omega)) ?_)
 rintro r S ⟨p,i3,h3,⟨rfl,rfl⟩,hi3,hpi,hpd⟩
 refine x_alloc rfl rfl rfl rfl za_58 ?_
 refine EOps_go rfl rfl (EOp_store rfl rfl rfl (xb1 ty_58) ?_)
 refine EOps_nil ?_
 refine G_seq ?_
 refine g_tidy_A137_8 [0,2,3,4,5,6,7] ?_
 refine G_drawU mixed ?_
 refine u_pure 2 rfl rfl rfl (L_move rfl) ?_
 refine u_any 0 [1,3] ⟨?_,?_,?_,trivial⟩
 ·refine u_op 0 rfl rfl (EOp_light rfl (by decide) (L_load rfl (xb2 ty_27)) ?_)
  refine u_any 1 [3] ⟨?_,?_,trivial⟩
  ·refine u_op 1 rfl rfl (EOp_light rfl (by decide) (L_load rfl (xb2 ty_58)) ?_)
   refine u_any 3 [] ⟨?_,trivial⟩
   refine u_op 3 rfl rfl (xe2 rfl rfl rfl ca_114 (c_spec_l1Below l i3 h3 30 _ hb hi3 (by decide)) ?_)
   rintro r S ⟨x,i4,h4,⟨rfl,rfl⟩,hi4,hx⟩
   refine u_pure 4 rfl rfl rfl xb4 ?_
   refine u_any 5 [] ⟨?_,trivial⟩
   refine u_op 5 rfl rfl (EOp_store rfl rfl rfl (xb1 ty_27) ?_)
   refine u_any 6 [] ⟨?_,trivial⟩
   refine u_op 6 rfl rfl (EOp_store rfl rfl rfl (xb1 ty_58) ?_)
   refine u_pure 7 rfl rfl rfl (L_assign rfl) ?_
   refine u_done ?_
   refine G_ret ?_
   exact⟨_,[3,4,5,7,8],rfl,rfl,Y,p,x - 1,⟨rfl,rfl⟩,hyv,hyr,hyp,hpi,hpd⟩
  ·refine u_op 3 rfl rfl (xe2 rfl rfl rfl ca_114 (c_spec_l1Below l i3 h3 30 _ hb hi3 (by decide)) ?_)
   rintro r S ⟨x,i4,h4,⟨rfl,rfl⟩,hi4,hx⟩
   refine u_pure 4 rfl rfl rfl xb4 ?_
   refine u_any 1 [5] ⟨?_,?_,trivial⟩
   ·refine u_op 1 rfl rfl (EOp_light rfl (by decide) (L_load rfl (xb2 ty_58)) ?_)
    refine u_any 5 [] ⟨?_,trivial⟩
    refine u_op 5 rfl rfl (EOp_store rfl rfl rfl (xb1 ty_27) ?_)
    refine u_any 6 [] ⟨?_,trivial⟩
    refine u_op 6 rfl rfl (EOp_store rfl rfl rfl (xb1 ty_58) ?_)
    refine u_pure 7 rfl rfl rfl (L_assign rfl) ?_
    refine u_done ?_
    refine G_ret ?_
    exact⟨_,[3,4,5,7,8],rfl,rfl,Y,p,x - 1,⟨rfl,rfl⟩,hyv,hyr,hyp,hpi,hpd⟩
   ·refine u_op 5 rfl rfl (EOp_store rfl rfl rfl (by first | exact s_bp ty_27 | exact s_ep ty_27) ?_)
    refine u_any 1 [] ⟨?_,trivial⟩
    refine u_op 1 rfl rfl (EOp_light rfl (by decide) (L_load rfl (xb0 ty_58)) ?_)
    refine u_any 6 [] ⟨?_,trivial⟩
    refine u_op 6 rfl rfl (EOp_store rfl rfl rfl (xb1 ty_58) ?_)
    refine u_pure 7 rfl rfl rfl (L_assign rfl) ?_
    refine u_done ?_
    refine G_ret ?_
    exact⟨_,[3,4,5,7,8],rfl,rfl,Y,p,x - 1,⟨rfl,rfl⟩,hyv,hyr,hyp,hpi,hpd⟩
 ·refine u_op 1 rfl rfl (EOp_light rfl (by decide) (L_load rfl (xb2 ty_58)) ?_)
  refine u_any 0 [3] ⟨?_,?_,trivial⟩
  ·refine u_op 0 rfl rfl (EOp_light rfl (by decide) (L_load rfl (xb2 ty_27)) ?_)
   refine u_any 3 [] ⟨?_,trivial⟩
   refine u_op 3 rfl rfl (xe2 rfl rfl rfl ca_114 (c_spec_l1Below l i3 h3 30 _ hb hi3 (by decide)) ?_)
   rintro r S ⟨x,i4,h4,⟨rfl,rfl⟩,hi4,hx⟩
   refine u_pure 4 rfl rfl rfl xb4 ?_
   refine u_any 5 [] ⟨?_,trivial⟩
   refine u_op 5 rfl rfl (EOp_store rfl rfl rfl (xb1 ty_27) ?_)
   refine u_any 6 [] ⟨?_,trivial⟩
   refine u_op 6 rfl rfl (EOp_store rfl rfl rfl (xb1 ty_58) ?_)
   refine u_pure 7 rfl rfl rfl (L_assign rfl) ?_
   refine u_done ?_
   refine G_ret ?_
   exact⟨_,[3,4,5,7,8],rfl,rfl,Y,p,x - 1,⟨rfl,rfl⟩,hyv,hyr,hyp,hpi,hpd⟩
  ·refine u_op 3 rfl rfl (xe2 rfl rfl rfl ca_114 (c_spec_l1Below l i3 h3 30 _ hb hi3 (by decide)) ?_)
   rintro r S ⟨x,i4,h4,⟨rfl,rfl⟩,hi4,hx⟩
   refine u_pure 4 rfl rfl rfl xb4 ?_
   refine u_any 0 [] ⟨?_,trivial⟩
   refine u_op 0 rfl rfl (EOp_light rfl (by decide) (L_load rfl (xb0 ty_27)) ?_)
   refine u_any 5 [] ⟨?_,trivial⟩
   refine u_op 5 rfl rfl (EOp_store rfl rfl rfl (xb1 ty_27) ?_)
   refine u_any 6 [] ⟨?_,trivial⟩
   refine u_op 6 rfl rfl (EOp_store rfl rfl rfl (xb1 ty_58) ?_)
   refine u_pure 7 rfl rfl rfl (L_assign rfl) ?_
   refine u_done ?_
   refine G_ret ?_
   exact⟨_,[3,4,5,7,8],rfl,rfl,Y,p,x - 1,⟨rfl,rfl⟩,hyv,hyr,hyp,hpi,hpd⟩
 ·refine u_op 3 rfl rfl (xe2 rfl rfl rfl ca_114 (c_spec_l1Below l i3 h3 30 _ hb hi3 (by decide)) ?_)
  rintro r S ⟨x,i4,h4,⟨rfl,rfl⟩,hi4,hx⟩
  refine u_pure 4 rfl rfl rfl xb4 ?_
  refine u_any 0 [1] ⟨?_,?_,trivial⟩
  ·refine u_op 0 rfl rfl (EOp_light rfl (by decide) (L_load rfl (xb2 ty_27)) ?_)
   refine u_any 1 [5] ⟨?_,?_,trivial⟩
   ·refine u_op 1 rfl rfl (EOp_light rfl (by decide) (L_load rfl (xb2 ty_58)) ?_)
    refine u_any 5 [] ⟨?_,trivial⟩
    refine u_op 5 rfl rfl (EOp_store rfl rfl rfl (xb1 ty_27) ?_)
    refine u_any 6 [] ⟨?_,trivial⟩
    refine u_op 6 rfl rfl (EOp_store rfl rfl rfl (xb1 ty_58) ?_)
    refine u_pure 7 rfl rfl rfl (L_assign rfl) ?_
    refine u_done ?_
    refine G_ret ?_
    exact⟨_,[3,4,5,7,8],rfl,rfl,Y,p,x - 1,⟨rfl,rfl⟩,hyv,hyr,hyp,hpi,hpd⟩
   ·refine u_op 5 rfl rfl (EOp_store rfl rfl rfl (by first | exact s_bp ty_27 | exact s_ep ty_27) ?_)
    refine u_any 1 [] ⟨?_,trivial⟩
    refine u_op 1 rfl rfl (EOp_light rfl (by decide) (L_load rfl (xb0 ty_58)) ?_)
    refine u_any 6 [] ⟨?_,trivial⟩
    refine u_op 6 rfl rfl (EOp_store rfl rfl rfl (xb1 ty_58) ?_)
    refine u_pure 7 rfl rfl rfl (L_assign rfl) ?_
    refine u_done ?_
    refine G_ret ?_
    exact⟨_,[3,4,5,7,8],rfl,rfl,Y,p,x - 1,⟨rfl,rfl⟩,hyv,hyr,hyp,hpi,hpd⟩
  ·refine u_op 1 rfl rfl (EOp_light rfl (by decide) (L_load rfl (xb2 ty_58)) ?_)
   refine u_any 0 [] ⟨?_,trivial⟩
   refine u_op 0 rfl rfl (EOp_light rfl (by decide) (L_load rfl (xb0 ty_27)) ?_)
   refine u_any 5 [] ⟨?_,trivial⟩
   refine u_op 5 rfl rfl (EOp_store rfl rfl rfl (xb1 ty_27) ?_)
   refine u_any 6 [] ⟨?_,trivial⟩
   refine u_op 6 rfl rfl (EOp_store rfl rfl rfl (xb1 ty_58) ?_)
   refine u_pure 7 rfl rfl rfl (L_assign rfl) ?_
   refine u_done ?_
   refine G_ret ?_
   exact⟨_,[3,4,5,7,8],rfl,rfl,Y,p,x - 1,⟨rfl,rfl⟩,hyv,hyr,hyp,hpi,hpd⟩

end Go.Proofs.Ytcepgfcolmdnoaa.E
