/- Walks through functions, by program out of the session's annotations. -/
import Derived.Test.YtcepgfcolmdnoaaA132
import Derived.Test.YtcepgfcolmdnoaaF4
namespace Go.Proofs.Ytcepgfcolmdnoaa.E
open Go Go.RowKit Go.Proofs
set_option linter.unusedVariables false
set_option linter.unusedSimpArgs false

theorem e_tidy_A134_0 {P : Program} {N : Nat} {s : Slots} {R : List Res} {Q : Exit → Slots → List Res → Prop} {c : Code} (keep : List Nat) {base : Slots} {R' : List Res} (h : ECode P N c base R' Q) (hb : keepOf s keep = base := by simp only [E.keepOf, E.get, E.ev, E.cv, E.fill', E.fill, E.slotsOf, Res.sh, AC.sh, AC.sh.shs, AV.sh, E.splice, List.map_cons, List.map_nil, List.cons_append, List.nil_append, List.append_nil, List.length_cons, List.length_nil, List.take_zero, List.drop_zero, List.take_succ_cons, List.drop_succ_cons, List.drop_nil, List.take_nil, List.set_cons_zero, List.set_cons_succ, Nat.zero_add, Nat.add_zero, Nat.reduceAdd, Nat.reduceSub, reduceIte, Nat.reduceEqDiff, E.back, E.backR, E.ix, Res.un, AC.un, AC.un.uns, AV.un, E.un, Option.map_some, Option.map_none, Option.getD_some, List.getElem?_cons_zero, List.getElem?_cons_succ, List.getElem?_nil, curC]; rfl) (hR : R = R' := by (try simp only [E.keepOf, E.get, E.ev, E.cv, E.fill', E.fill, E.slotsOf, Res.sh, AC.sh, AC.sh.shs, AV.sh, E.splice, List.map_cons, List.map_nil, List.cons_append, List.nil_append, List.append_nil, List.length_cons, List.length_nil, List.take_zero, List.drop_zero, List.take_succ_cons, List.drop_succ_cons, List.drop_nil, List.take_nil, List.set_cons_zero, List.set_cons_succ, Nat.zero_add, Nat.add_zero, Nat.reduceAdd, Nat.reduceSub, reduceIte, Nat.reduceEqDiff, E.back, E.backR, E.ix, Res.un, AC.un, AC.un.uns, AV.un, E.un, Option.map_some, Option.map_none, Option.getD_some, List.getElem?_cons_zero, List.getElem?_cons_succ, List.getElem?_nil, curC]); rfl) : ECode P N c s R Q := E_tidy keep hb hR h
theorem e_for_A134_1 {P : Program} {N : Nat} {s : Slots} {R : List Res} {Q : Exit → Slots → List Res → Prop} {α : Type} {c : Code} (keep : List Nat) (mods : α → Slots) (Rf : α → List Res) (I : α → Prop) (m : α → Nat) (x0 : α) {base : Slots} (h0 : I x0) (hR : R = Rf x0) (h1 : chk s (mods x0))
  (round : ∀ x, I x → ECode P N c (mods x ++ base) (Rf x) (EThen (fun s' R' => ∃ y, m y < m x ∧ I y ∧ R' = Rf y ∧ chk s' (mods y) ∧ chk s' base) Q)) (hb : keepOf s keep = base := by simp only [E.keepOf, E.get, E.ev, E.cv, E.fill', E.fill, E.slotsOf, Res.sh, AC.sh, AC.sh.shs, AV.sh, E.splice, List.map_cons, List.map_nil, List.cons_append, List.nil_append, List.append_nil, List.length_cons, List.length_nil, List.take_zero, List.drop_zero, List.take_succ_cons, List.drop_succ_cons, List.drop_nil, List.take_nil, List.set_cons_zero, List.set_cons_succ, Nat.zero_add, Nat.add_zero, Nat.reduceAdd, Nat.reduceSub, reduceIte, Nat.reduceEqDiff, E.back, E.backR, E.ix, Res.un, AC.un, AC.un.uns, AV.un, E.un, Option.map_some, Option.map_none, Option.getD_some, List.getElem?_cons_zero, List.getElem?_cons_succ, List.getElem?_nil, curC]; rfl) : ECode P N (.loop c) s R Q := E_for keep mods Rf I m x0 hb h0 hR h1 round
theorem g_tidy_A134_2 {P : Program} {N n : Nat} {s : Slots} {R : List Res} {Q : Exit → Slots → List Res → Prop} {c : Code} (keep : List Nat) {base : Slots} {R' : List Res} (h : GCode P N n c base R' Q) (hb : keepOf s keep = base := by simp only [E.keepOf, E.get, E.ev, E.cv, E.fill', E.fill, E.slotsOf, Res.sh, AC.sh, AC.sh.shs, AV.sh, E.splice, List.map_cons, List.map_nil, List.cons_append, List.nil_append, List.append_nil, List.length_cons, List.length_nil, List.take_zero, List.drop_zero, List.take_succ_cons, List.drop_succ_cons, List.drop_nil, List.take_nil, List.set_cons_zero, List.set_cons_succ, Nat.zero_add, Nat.add_zero, Nat.reduceAdd, Nat.reduceSub, reduceIte, Nat.reduceEqDiff, E.back, E.backR, E.ix, Res.un, AC.un, AC.un.uns, AV.un, E.un, Option.map_some, Option.map_none, Option.getD_some, List.getElem?_cons_zero, List.getElem?_cons_succ, List.getElem?_nil, curC, crkO, crkR, mpO, mpR]; rfl) (hR : R = R' := by (try simp only [E.keepOf, E.get, E.ev, E.cv, E.fill', E.fill, E.slotsOf, Res.sh, AC.sh, AC.sh.shs, AV.sh, E.splice, List.map_cons, List.map_nil, List.cons_append, List.nil_append, List.append_nil, List.length_cons, List.length_nil, List.take_zero, List.drop_zero, List.take_succ_cons, List.drop_succ_cons, List.drop_nil, List.take_nil, List.set_cons_zero, List.set_cons_succ, Nat.zero_add, Nat.add_zero, Nat.reduceAdd, Nat.reduceSub, reduceIte, Nat.reduceEqDiff, E.back, E.backR, E.ix, Res.un, AC.un, AC.un.uns, AV.un, E.un, Option.map_some, Option.map_none, Option.getD_some, List.getElem?_cons_zero, List.getElem?_cons_succ, List.getElem?_nil, curC, crkO, crkR, mpO, mpR]); rfl) : GCode P N n c s R Q := G_tidy keep hb hR h
theorem e_tidy_A134_3 {P : Program} {N : Nat} {s : Slots} {R : List Res} {Q : Exit → Slots → List Res → Prop} {c : Code} (keep : List Nat) {base : Slots} {R' : List Res} (h : ECode P N c base R' Q) (hb : keepOf s keep = base := by simp only [E.keepOf, E.get, E.ev, E.cv, E.fill', E.fill, E.slotsOf, Res.sh, AC.sh, AC.sh.shs, AV.sh, E.splice, List.map_cons, List.map_nil, List.cons_append, List.nil_append, List.append_nil, List.length_cons, List.length_nil, List.take_zero, List.drop_zero, List.take_succ_cons, List.drop_succ_cons, List.drop_nil, List.take_nil, List.set_cons_zero, List.set_cons_succ, Nat.zero_add, Nat.add_zero, Nat.reduceAdd, Nat.reduceSub, reduceIte, Nat.reduceEqDiff, E.back, E.backR, E.ix, Res.un, AC.un, AC.un.uns, AV.un, E.un, Option.map_some, Option.map_none, Option.getD_some, List.getElem?_cons_zero, List.getElem?_cons_succ, List.getElem?_nil, curC, crkO]; rfl) (hR : R = R' := by (try simp only [E.keepOf, E.get, E.ev, E.cv, E.fill', E.fill, E.slotsOf, Res.sh, AC.sh, AC.sh.shs, AV.sh, E.splice, List.map_cons, List.map_nil, List.cons_append, List.nil_append, List.append_nil, List.length_cons, List.length_nil, List.take_zero, List.drop_zero, List.take_succ_cons, List.drop_succ_cons, List.drop_nil, List.take_nil, List.set_cons_zero, List.set_cons_succ, Nat.zero_add, Nat.add_zero, Nat.reduceAdd, Nat.reduceSub, reduceIte, Nat.reduceEqDiff, E.back, E.backR, E.ix, Res.un, AC.un, AC.un.uns, AV.un, E.un, Option.map_some, Option.map_none, Option.getD_some, List.getElem?_cons_zero, List.getElem?_cons_succ, List.getElem?_nil, curC, crkO]); rfl) : ECode P N c s R Q := E_tidy keep hb hR h
theorem e_for_A134_4 {P : Program} {N : Nat} {s : Slots} {R : List Res} {Q : Exit → Slots → List Res → Prop} {α : Type} {c : Code} (keep : List Nat) (mods : α → Slots) (Rf : α → List Res) (I : α → Prop) (m : α → Nat) (x0 : α) {base : Slots} (h0 : I x0) (hR : R = Rf x0) (h1 : chk s (mods x0))
  (round : ∀ x, I x → ECode P N c (mods x ++ base) (Rf x) (EThen (fun s' R' => ∃ y, m y < m x ∧ I y ∧ R' = Rf y ∧ chk s' (mods y) ∧ chk s' base) Q)) (hb : keepOf s keep = base := by simp only [E.keepOf, E.get, E.ev, E.cv, E.fill', E.fill, E.slotsOf, Res.sh, AC.sh, AC.sh.shs, AV.sh, E.splice, List.map_cons, List.map_nil, List.cons_append, List.nil_append, List.append_nil, List.length_cons, List.length_nil, List.take_zero, List.drop_zero, List.take_succ_cons, List.drop_succ_cons, List.drop_nil, List.take_nil, List.set_cons_zero, List.set_cons_succ, Nat.zero_add, Nat.add_zero, Nat.reduceAdd, Nat.reduceSub, reduceIte, Nat.reduceEqDiff, E.back, E.backR, E.ix, Res.un, AC.un, AC.un.uns, AV.un, E.un, Option.map_some, Option.map_none, Option.getD_some, List.getElem?_cons_zero, List.getElem?_cons_succ, List.getElem?_nil, curC, crkO]; rfl) : ECode P N (.loop c) s R Q := E_for keep mods Rf I m x0 hb h0 hR h1 round
theorem e_tidy_A134_5 {P : Program} {N : Nat} {s : Slots} {R : List Res} {Q : Exit → Slots → List Res → Prop} {c : Code} (keep : List Nat) {base : Slots} {R' : List Res} (h : ECode P N c base R' Q) (hb : keepOf s keep = base := by simp only [E.keepOf, E.get, E.ev, E.cv, E.fill', E.fill, E.slotsOf, Res.sh, AC.sh, AC.sh.shs, AV.sh, E.splice, List.map_cons, List.map_nil, List.cons_append, List.nil_append, List.append_nil, List.length_cons, List.length_nil, List.take_zero, List.drop_zero, List.take_succ_cons, List.drop_succ_cons, List.drop_nil, List.take_nil, List.set_cons_zero, List.set_cons_succ, Nat.zero_add, Nat.add_zero, Nat.reduceAdd, Nat.reduceSub, reduceIte, Nat.reduceEqDiff, E.back, E.backR, E.ix, Res.un, AC.un, AC.un.uns, AV.un, E.un, Option.map_some, Option.map_none, Option.getD_some, List.getElem?_cons_zero, List.getElem?_cons_succ, List.getElem?_nil, curC, crkO, crkR, mpO, mpR]; rfl) (hR : R = R' := by (try simp only [E.keepOf, E.get, E.ev, E.cv, E.fill', E.fill, E.slotsOf, Res.sh, AC.sh, AC.sh.shs, AV.sh, E.splice, List.map_cons, List.map_nil, List.cons_append, List.nil_append, List.append_nil, List.length_cons, List.length_nil, List.take_zero, List.drop_zero, List.take_succ_cons, List.drop_succ_cons, List.drop_nil, List.take_nil, List.set_cons_zero, List.set_cons_succ, Nat.zero_add, Nat.add_zero, Nat.reduceAdd, Nat.reduceSub, reduceIte, Nat.reduceEqDiff, E.back, E.backR, E.ix, Res.un, AC.un, AC.un.uns, AV.un, E.un, Option.map_some, Option.map_none, Option.getD_some, List.getElem?_cons_zero, List.getElem?_cons_succ, List.getElem?_nil, curC, crkO, crkR, mpO, mpR]); rfl) : ECode P N c s R Q := E_tidy keep hb hR h
theorem g_seqD_A134_6 {P : Program} {N n : Nat} {s : Slots} {R : List Res} {Q : Exit → Slots → List Res → Prop} {α : Type} {x y : Code} (keep : List Nat) (mods : α → Slots) (Rf : α → List Res) (I : α → Prop) {base : Slots}
  (hx : GCode P N n x s R (EThen (fun s' R' => ∃ σ, okσ n R' σ = true ∧ ∃ z, I z ∧ reR n σ R' = Rf z ∧ chk (renS n σ s') (mods z) ∧ chk (renS n σ s') base) Q)) (hy : ∀ z, I z → GCode P N n y (mods z ++ base) (Rf z) Q) (hb : keepOf s keep = base := by simp only [E.keepOf, E.get, E.ev, E.cv, E.fill', E.fill, E.slotsOf, Res.sh, AC.sh, AC.sh.shs, AV.sh, E.splice, List.map_cons, List.map_nil, List.cons_append, List.nil_append, List.append_nil, List.length_cons, List.length_nil, List.take_zero, List.drop_zero, List.take_succ_cons, List.drop_succ_cons, List.drop_nil, List.take_nil, List.set_cons_zero, List.set_cons_succ, Nat.zero_add, Nat.add_zero, Nat.reduceAdd, Nat.reduceSub, reduceIte, Nat.reduceEqDiff, E.back, E.backR, E.ix, Res.un, AC.un, AC.un.uns, AV.un, E.un, Option.map_some, Option.map_none, Option.getD_some, List.getElem?_cons_zero, List.getElem?_cons_succ, List.getElem?_nil, curC, crkO, crkR, mpO, mpR]; rfl) : GCode P N n (.seq x y) s R Q := G_seqD keep mods Rf I hb hx hy

set_option maxRecDepth 20000 in
set_option maxHeartbeats 2000000 in
theorem c_spec_l2Values_nv (l : List Int) (i h most : Int) (hb : byL l) (hi : curOk l i) (hm : 0 ≤ most ∧ most ≤ 100000) : EFn Try.prog 120 [.c (.bp 0 0), .c (.sc (.int .i64 most))] [.box (curC l i h)] (fun r S => ∃ (xs : List Int) (i' h' : Int), (r = .c (.sl 1 0 xs.length xs.length) ∧ S = [.box (curC l i' h'), .row 3 1 (ints xs)]) ∧ curOk l i' ∧ (xs.length : Int) ≤ most) := by
 refine E_fn Try.func120 rfl (Nat.le_of_ble_eq_true rfl) ?_
 refine E_seq ?_
 refine E_region' (L := [0]) rfl ?_
 refine xas ?_
 refine EOps_nil ?_
 refine E_seq ?_
 refine E_region' (L := [0, 1]) rfl ?_
 refine EOps_go rfl rfl (Heavy.op (H_bslice rfl rfl (by decide) sl_24 ty_3 za_3 ⟨rfl, by decide⟩ (by decide) rfl rfl rfl rfl ?_))
 refine xas ?_
 refine EOps_nil ?_
 refine E_seq ?_
 refine e_tidy_A134_0 [0, 1, 4, 5] ?_
 refine E_region' (L := [0, 1, 2, 3]) rfl ?_
 refine xmv ?_
 refine EOps_go rfl rfl (Heavy.op (H_bslice rfl rfl (by decide) sl_24 ty_3 za_3 ⟨rfl, by decide⟩ (by decide) rfl rfl rfl rfl ?_))
 refine EOps_go rfl rfl (EOp_call1 rfl rfl (by decide) rfl ca_159 (c_spec_l1PickInt l i h _ 1 [3, 10, 30, 1000] 4 hb hi (by decide) rfl rfl) (by refine cons_eq ?_ (cons_eq ?_ (rfl)) <;> first | (refine lend_whole rfl ?_; first | assumption | exact ints_len _ | exact pairs_len _ | exact quads_len _ | exact quints_len _ | exact bools_len _ | (simp [ints_len, bools_len, pairs_len, quads_len, quints_len, part_len, *]; done) | (simp [ints_len, bools_len, pairs_len, quads_len, quints_len]; omega) | rfl) | (refine agg_eq ?_; repeat' (first | (refine lendC_whole rfl ?_; first | assumption | exact ints_len _ | exact pairs_len _ | exact quads_len _ | exact quints_len _ | exact bools_len _ | (simp [ints_len, bools_len, pairs_len, quads_len, quints_len, part_len, *]; done) | (simp [ints_len, bools_len, pairs_len, quads_len, quints_len]; omega) | rfl) | refine cons_eq ?_ ?_ | rfl)) | rfl | simp [E.lend, E.lendC, E.ev, E.cv, E.get, E.fill', E.fill, AV.sh, AC.sh, Res.sh, ints_len, *]) ?_)
 rintro r S ⟨w, i1, h1, ⟨rfl, rfl⟩, hi1, hw⟩
 have hw' : 0 < w ∧ w ≤ 1000 := by simp at hw; omega
 refine xas ?_
 refine EOps_nil ?_
 refine E_seq ?_
 refine E_seq ?_
 refine e_tidy_A134_0 [0, 1, 4, 5, 6] ?_
 refine E_region' (L := [0, 1, 2, 3, 4]) rfl ?_
 refine xmv ?_
 refine xmv ?_
 refine x_pure rfl rfl rfl (by first | exact l_add rfl rfl rfl | exact L_bin rfl rfl rfl rfl) ?_
 refine EOps_go rfl rfl (EOp_call1 rfl rfl (by decide) rfl ca_114 (c_spec_l1Below l i1 h1 (most + 1) _ hb hi1 (by omega)) (by refine cons_eq ?_ (cons_eq ?_ (rfl)) <;> first | (refine lend_whole rfl ?_; first | assumption | exact ints_len _ | exact pairs_len _ | exact quads_len _ | exact quints_len _ | exact bools_len _ | (simp [ints_len, bools_len, pairs_len, quads_len, quints_len, part_len, *]; done) | (simp [ints_len, bools_len, pairs_len, quads_len, quints_len]; omega) | rfl) | (refine agg_eq ?_; repeat' (first | (refine lendC_whole rfl ?_; first | assumption | exact ints_len _ | exact pairs_len _ | exact quads_len _ | exact quints_len _ | exact bools_len _ | (simp [ints_len, bools_len, pairs_len, quads_len, quints_len, part_len, *]; done) | (simp [ints_len, bools_len, pairs_len, quads_len, quints_len]; omega) | rfl) | refine cons_eq ?_ ?_ | rfl)) | rfl | simp [E.lend, E.lendC, E.ev, E.cv, E.get, E.fill', E.fill, AV.sh, AC.sh, Res.sh, ints_len, *]) ?_)
 rintro r S ⟨x2, i2, h2, ⟨rfl, rfl⟩, hi2, hx2⟩
 obtain ⟨k, rfl⟩ : ∃ k : Nat, x2 = (k : Int) := ⟨x2.toNat, by omega⟩
 have hk1 := hx2.2.1 (by omega)
 refine xas ?_
 refine EOps_nil ?_
 refine E_block ?_
 refine e_for_A134_1 (α := Nat × List Int × Int × Int) [0, 1, 4, 6] (fun (n, xs, i3, h3) => [(7, .c (.sc (.int .i64 ((n : Int))))), (5, .c (.sl 1 0 xs.length xs.length)), (8, .any)]) (fun (n, xs, i3, h3) => [.box (curC l i3 h3), .row 3 1 (ints xs), _]) (fun (n, xs, i3, h3) => (n : Int) + xs.length ≤ most ∧ curOk l i3) (fun (n, xs, i3, h3) => n) ((k, [], i2, h2)) ?_ (rfl) ⟨.inr rfl, .inr rfl, .inl rfl, trivial⟩ ?_
 ·exact ⟨by simp; omega, hi2⟩
 rintro ⟨n, xs, i3, h3⟩ ⟨hnx, hi3⟩
 dsimp only at *
 refine E_seq ?_
 refine E_seq ?_
 refine E_region' (L := [0, 1]) rfl ?_
 refine xmv ?_
 refine x_pure rfl rfl rfl (L_bin rfl rfl rfl rfl) ?_
 refine EOps_nil ?_
 refine E_cond rfl (fun hc18 => ?_) (fun hc18 => ?_)
 ·have hn1 : 0 < n := by simp at hc18; omega
  refine E_skip ?_
  refine E_seq ?_
  refine E_block ?_
  refine E_seq ?_
  refine e_tidy_A134_0 [0, 1, 4, 5, 6, 7, 8, 18] ?_
  refine E_region' (L := [0, 1, 2, 3, 4, 5, 6]) rfl ?_
  refine xmv ?_
  refine xmv ?_
  refine EOps_go rfl rfl (EOp_call1 rfl rfl (by decide) rfl ca_114 (c_spec_l1Below l i3 h3 w _ hb hi3 (by omega)) (by refine cons_eq ?_ (cons_eq ?_ (rfl)) <;> first | (refine lend_whole rfl ?_; first | assumption | exact ints_len _ | exact pairs_len _ | exact quads_len _ | exact quints_len _ | exact bools_len _ | (simp [ints_len, bools_len, pairs_len, quads_len, quints_len, part_len, *]; done) | (simp [ints_len, bools_len, pairs_len, quads_len, quints_len]; omega) | rfl) | (refine agg_eq ?_; repeat' (first | (refine lendC_whole rfl ?_; first | assumption | exact ints_len _ | exact pairs_len _ | exact quads_len _ | exact quints_len _ | exact bools_len _ | (simp [ints_len, bools_len, pairs_len, quads_len, quints_len, part_len, *]; done) | (simp [ints_len, bools_len, pairs_len, quads_len, quints_len]; omega) | rfl) | refine cons_eq ?_ ?_ | rfl)) | rfl | simp [E.lend, E.lendC, E.ev, E.cv, E.get, E.fill', E.fill, AV.sh, AC.sh, Res.sh, ints_len, *]) ?_)
  rintro r S ⟨x4, i4, h4, ⟨rfl, rfl⟩, hi4, hx4⟩
  refine xmv ?_
  refine x_pure rfl rfl rfl (L_quo rfl rfl rfl (by omega)) ?_
  refine x_pure rfl rfl rfl (by first | exact l_sub rfl rfl rfl | exact L_bin rfl rfl rfl rfl) ?_
  generalize hzz : (IntKind.i64.wrap (x4 - IntKind.i64.wrap (Int.tdiv w 3))) = zz
  refine xas ?_
  refine EOps_nil ?_
  refine E_region' (L := [0, 1, 2, 3, 4]) rfl ?_
  refine xmv ?_
  refine xmv ?_
  refine EOps_go rfl rfl (Heavy.op (H_bslice_ro rfl rfl (by decide) sl_24 ty_3 za_3 ⟨rfl, by decide⟩ (by decide) rfl rfl rfl rfl ?_))
  refine EOps_go rfl rfl (EOp_append (news := ints [zz]) rfl rfl (by decide) sl_24 ty_3 by_3 za_3 ⟨rfl, by decide⟩ rfl (by first | rfl | assumption) (by first | assumption | exact ints_len _ | exact pairs_len _ | exact quads_len _ | exact quints_len _ | exact bools_len _ | (simp [ints_len, bools_len, pairs_len, quads_len, quints_len, part_len, *]; done) | (simp [ints_len, bools_len, pairs_len, quads_len, quints_len]; omega) | rfl) (by first | (refine lend_whole rfl ?_; first | assumption | exact ints_len _ | exact pairs_len _ | exact quads_len _ | exact quints_len _ | exact bools_len _ | (simp [ints_len, bools_len, pairs_len, quads_len, quints_len, part_len, *]; done) | (simp [ints_len, bools_len, pairs_len, quads_len, quints_len]; omega) | rfl) | rfl | simp [E.lend, lendC]) (by first | exact ints_row _ | exact pairs_row _ | exact quads_row _ | exact quints_row _ | exact bools_row _ | (intro r hr; simp [chunk] at hr; subst hr; exact ⟨rfl, rfl⟩)) (by simp [ints_len, bools_len, pairs_len, quads_len, quints_len, chunk]; omega) ?_)
  refine xas ?_
  refine EOps_nil ?_
  refine E_region' (L := [0, 1, 2]) rfl ?_
  refine xmv ?_
  refine x_pure rfl rfl rfl (by first | exact l_sub rfl rfl rfl | exact L_bin rfl rfl rfl rfl) ?_
  refine xas ?_
  refine EOps_nil ?_
  refine ⟨(n - 1, xs ++ [zz], i4, h4), ?_, ?_, (by dsimp only; rw [← ints_app]; rfl), ⟨.inr (int_eq (by first | omega | (dsimp only; omega))), .inr ((by dsimp only; rw [← ints_lenApp]; rfl)), .inl rfl, trivial⟩, ⟨.inr rfl, .inr rfl, .inr rfl, .inr rfl, trivial⟩⟩
  ·dsimp only; omega
  ·exact ⟨by simp; omega, hi4⟩
 ·refine E_exit ?_
  refine E_seq ?_
  refine E_region' (L := [0, 1]) rfl ?_
  refine xmv ?_
  refine xas ?_
  refine EOps_nil ?_
  refine E_ret ?_
  exact ⟨_, [1], rfl, rfl, xs, i3, h3, ⟨rfl, rfl⟩, hi3, by omega⟩

set_option maxRecDepth 20000 in
set_option maxHeartbeats 2000000 in
theorem c_spec_l12Tail_nt (l : List Int) (i h : Int) (xs : List Int) (n : Nat) (hb : byL l) (hi : curOk l i) (hn : n ≤ 100000) : EFn Try.prog 121 [.c (.bp 0 0), .c (.sc (.int .i64 (n : Int)))] [.box (curC l i h), .row 3 1 (ints xs)] (fun r S => ∃ (ys : List Int) (i' h' : Int), (r = .c (.sl 2 0 ys.length ys.length) ∧ S = [.box (curC l i' h'), .row 3 1 (ints xs), .row 3 1 (ints ys)]) ∧ curOk l i' ∧ ys.length = n) := by
 refine E_fn Try.func121 rfl (Nat.le_of_ble_eq_true rfl) ?_
 refine E_seq ?_
 refine E_region' (L := [0]) rfl ?_
 refine xas ?_
 refine EOps_nil ?_
 refine E_seq ?_
 refine E_region' (L := [0, 1]) rfl ?_
 refine EOps_go rfl rfl (Heavy.op (H_bslice rfl rfl (by decide) sl_24 ty_3 za_3 ⟨rfl, by decide⟩ (by decide) rfl rfl rfl rfl ?_))
 refine xas ?_
 refine EOps_nil ?_
 refine E_seq ?_
 refine E_seq ?_
 refine E_region' (L := [0]) rfl ?_
 refine xas ?_
 refine EOps_nil ?_
 refine E_block ?_
 refine e_for_A134_1 (α := Nat × List Int × Int × Int) [0, 1, 4] (fun (k, ys, i3, h3) => [(6, .c (.sc (.int .i64 ((k : Int))))), (5, .c (.sl 2 0 ys.length ys.length)), (7, .any)]) (fun (k, ys, i3, h3) => [.box (curC l i3 h3), .row 3 1 (ints xs), .row 3 1 (ints ys)]) (fun (k, ys, i3, h3) => ys.length = k ∧ k ≤ n ∧ curOk l i3) (fun (k, ys, i3, h3) => n - k) ((0, [], i, h)) ?_ (rfl) ⟨.inr rfl, .inr rfl, .inl rfl, trivial⟩ ?_
 ·exact ⟨rfl, Nat.zero_le _, hi⟩
 rintro ⟨k, ys, i3, h3⟩ ⟨hyk, hkn, hi3⟩
 dsimp only at *
 refine E_seq ?_
 refine E_seq ?_
 refine E_region' (L := [0, 1, 2]) rfl ?_
 refine xmv ?_
 refine xmv ?_
 refine x_pure rfl rfl rfl (L_bin rfl rfl rfl rfl) ?_
 refine EOps_nil ?_
 refine E_cond rfl (fun hc11 => ?_) (fun hc11 => ?_)
 ·have hn1 : k < n := by simp at hc11; omega
  refine E_skip ?_
  refine E_seq ?_
  refine E_block ?_
  refine E_seq ?_
  refine e_tidy_A134_0 [0, 1, 4, 5, 6, 7, 11] ?_
  refine E_region' (L := [0, 1, 2, 3]) rfl ?_
  refine xmv ?_
  refine EOps_go rfl rfl (EOp_call1 rfl rfl (by decide) rfl ca_114 (c_spec_l1Below l i3 h3 40 _ hb hi3 (by decide)) (by refine cons_eq ?_ (cons_eq ?_ (rfl)) <;> first | (refine lend_whole rfl ?_; first | assumption | exact ints_len _ | exact pairs_len _ | exact quads_len _ | exact quints_len _ | exact bools_len _ | (simp [ints_len, bools_len, pairs_len, quads_len, quints_len, part_len, *]; done) | (simp [ints_len, bools_len, pairs_len, quads_len, quints_len]; omega) | rfl) | (refine agg_eq ?_; repeat' (first | (refine lendC_whole rfl ?_; first | assumption | exact ints_len _ | exact pairs_len _ | exact quads_len _ | exact quints_len _ | exact bools_len _ | (simp [ints_len, bools_len, pairs_len, quads_len, quints_len, part_len, *]; done) | (simp [ints_len, bools_len, pairs_len, quads_len, quints_len]; omega) | rfl) | refine cons_eq ?_ ?_ | rfl)) | rfl | simp [E.lend, E.lendC, E.ev, E.cv, E.get, E.fill', E.fill, AV.sh, AC.sh, Res.sh, ints_len, *]) ?_)
  rintro r S ⟨x4, i4, h4, ⟨rfl, rfl⟩, hi4, hx4⟩
  refine x_pure rfl rfl rfl (by first | exact l_sub rfl rfl rfl | exact L_bin rfl rfl rfl rfl) ?_
  generalize hzz : (x4 - 5 : Int) = zz
  refine xas ?_
  refine EOps_nil ?_
  refine E_region' (L := [0, 1, 2, 3, 4]) rfl ?_
  refine xmv ?_
  refine xmv ?_
  refine EOps_go rfl rfl (Heavy.op (H_bslice_ro rfl rfl (by decide) sl_24 ty_3 za_3 ⟨rfl, by decide⟩ (by decide) rfl rfl rfl rfl ?_))
  refine EOps_go rfl rfl (EOp_append (news := ints [zz]) rfl rfl (by decide) sl_24 ty_3 by_3 za_3 ⟨rfl, by decide⟩ rfl (by first | rfl | assumption) (by first | assumption | exact ints_len _ | exact pairs_len _ | exact quads_len _ | exact quints_len _ | exact bools_len _ | (simp [ints_len, bools_len, pairs_len, quads_len, quints_len, part_len, *]; done) | (simp [ints_len, bools_len, pairs_len, quads_len, quints_len]; omega) | rfl) (by first | (refine lend_whole rfl ?_; first | assumption | exact ints_len _ | exact pairs_len _ | exact quads_len _ | exact quints_len _ | exact bools_len _ | (simp [ints_len, bools_len, pairs_len, quads_len, quints_len, part_len, *]; done) | (simp [ints_len, bools_len, pairs_len, quads_len, quints_len]; omega) | rfl) | rfl | simp [E.lend, lendC]) (by first | exact ints_row _ | exact pairs_row _ | exact quads_row _ | exact quints_row _ | exact bools_row _ | (intro r hr; simp [chunk] at hr; subst hr; exact ⟨rfl, rfl⟩)) (by simp [ints_len, bools_len, pairs_len, quads_len, quints_len, chunk]; omega) ?_)
  refine xas ?_
  refine EOps_nil ?_
  refine E_region' (L := [0, 1, 2]) rfl ?_
  refine xmv ?_
  refine x_pure rfl rfl rfl (by first | exact l_add rfl rfl rfl | exact L_bin rfl rfl rfl rfl) ?_
  refine xas ?_
  refine EOps_nil ?_
  refine ⟨(k + 1, ys ++ [zz], i4, h4), ?_, ?_, (by dsimp only; rw [← ints_app]; rfl), ⟨.inr (int_eq (by first | omega | (dsimp only; omega))), .inr ((by dsimp only; rw [← ints_lenApp]; rfl)), .inl rfl, trivial⟩, ⟨.inr rfl, .inr rfl, .inr rfl, trivial⟩⟩
  ·dsimp only; omega
  ·exact ⟨by simp; omega, by dsimp only; omega, hi4⟩
 ·have hkn2 : k = n := by simp at hc11; omega
  refine E_exit ?_
  refine E_seq ?_
  refine E_region' (L := [0, 1]) rfl ?_
  refine xmv ?_
  refine xas ?_
  refine EOps_nil ?_
  refine E_ret ?_
  exact ⟨_, [2], rfl, rfl, ys, i3, h3, ⟨rfl, rfl⟩, hi3, by omega⟩

set_option maxRecDepth 20000 in
set_option maxHeartbeats 4000000 in
theorem c_spec_DrawNewMap (l : List Int) (hb : byL l) : EFn Try.prog 40 [.c (.ro (bytes l))] [] (fun r S => ∃ (xs ys : List Int), (r = .tup [(false, [.sl 0 0 xs.length xs.length]), (false, [.sl 1 0 ys.length ys.length])] ∧ S = [.row 3 1 (ints xs), .row 3 1 (ints ys)]) ∧ xs.length ≤ 8 ∧ ys.length ≤ 9) := by
 refine E_fn Try.func40 rfl (Nat.le_of_ble_eq_true rfl) ?_
 refine E_G (n := 0) rfl ?_
 refine G_seq ?_
 refine G_region' (L := [0, 1]) rfl ?_
 refine xas ?_
 refine xas ?_
 refine EOps_nil ?_
 refine G_seq ?_
 refine g_tidy_A134_2 [0, 2, 3] ?_
 refine G_region' (L := [0, 1, 2]) rfl ?_
 refine xmv ?_
 refine EOps_go rfl rfl (EOp_call1 rfl rfl (by decide) rfl ca_74 (c_spec_l1New l _ hb) (by refine cons_eq ?_ (rfl) <;> first | (refine lend_whole rfl ?_; first | assumption | exact ints_len _ | exact pairs_len _ | exact quads_len _ | exact quints_len _ | exact bools_len _ | (simp [ints_len, bools_len, pairs_len, quads_len, quints_len, part_len, *]; done) | (simp [ints_len, bools_len, pairs_len, quads_len, quints_len]; omega) | rfl) | (refine agg_eq ?_; repeat' (first | (refine lendC_whole rfl ?_; first | assumption | exact ints_len _ | exact pairs_len _ | exact quads_len _ | exact quints_len _ | exact bools_len _ | (simp [ints_len, bools_len, pairs_len, quads_len, quints_len, part_len, *]; done) | (simp [ints_len, bools_len, pairs_len, quads_len, quints_len]; omega) | rfl) | refine cons_eq ?_ ?_ | rfl)) | rfl | simp [E.lend, E.lendC, E.ev, E.cv, E.get, E.fill', E.fill, AV.sh, AC.sh, Res.sh, ints_len, *]) ?_)
 rintro r S ⟨h1, rfl, rfl⟩
 refine xas ?_
 refine EOps_nil ?_
 refine G_seq ?_
 refine G_drop [0, 2, 3, 4] [0] rfl rfl rfl ?_
 refine g_tidy_A134_2 [0, 2, 3, 4] ?_
 refine G_region' (L := [0, 1, 2]) rfl ?_
 refine xmv ?_
 refine EOps_go rfl rfl (EOp_call1 rfl rfl (by decide) rfl ca_120 (c_spec_l2Values_nv l 0 h1 8 hb (by unfold curOk; omega) (by decide)) (by refine cons_eq ?_ (cons_eq ?_ (rfl)) <;> first | (refine lend_whole rfl ?_; first | assumption | exact ints_len _ | exact pairs_len _ | exact quads_len _ | exact quints_len _ | exact bools_len _ | (simp [ints_len, bools_len, pairs_len, quads_len, quints_len, part_len, *]; done) | (simp [ints_len, bools_len, pairs_len, quads_len, quints_len]; omega) | rfl) | (refine agg_eq ?_; repeat' (first | (refine lendC_whole rfl ?_; first | assumption | exact ints_len _ | exact pairs_len _ | exact quads_len _ | exact quints_len _ | exact bools_len _ | (simp [ints_len, bools_len, pairs_len, quads_len, quints_len, part_len, *]; done) | (simp [ints_len, bools_len, pairs_len, quads_len, quints_len]; omega) | rfl) | refine cons_eq ?_ ?_ | rfl)) | rfl | simp [E.lend, E.lendC, E.ev, E.cv, E.get, E.fill', E.fill, AV.sh, AC.sh, Res.sh, ints_len, *]) ?_)
 rintro r S ⟨xs, i2, h2, ⟨rfl, rfl⟩, hi2, hxs⟩
 refine xas ?_
 refine EOps_nil ?_
 refine G_seq ?_
 refine g_tidy_A134_2 [0, 2, 3, 4, 5] ?_
 refine G_region' (L := [0, 1, 2, 3, 4, 5, 6, 7, 8, 9]) rfl ?_
 refine xmv ?_
 refine xmv ?_
 refine xmv ?_
 refine x_pure rfl rfl rfl (l_len rfl sl_24) ?_
 refine xmv ?_
 refine EOps_go rfl rfl (EOp_call1 rfl rfl (by decide) rfl ca_114 (c_spec_l1Below l i2 h2 2 _ hb hi2 (by decide)) (by refine cons_eq ?_ (cons_eq ?_ (rfl)) <;> first | (refine lend_whole rfl ?_; first | assumption | exact ints_len _ | exact pairs_len _ | exact quads_len _ | exact quints_len _ | exact bools_len _ | (simp [ints_len, bools_len, pairs_len, quads_len, quints_len, part_len, *]; done) | (simp [ints_len, bools_len, pairs_len, quads_len, quints_len]; omega) | rfl) | (refine agg_eq ?_; repeat' (first | (refine lendC_whole rfl ?_; first | assumption | exact ints_len _ | exact pairs_len _ | exact quads_len _ | exact quints_len _ | exact bools_len _ | (simp [ints_len, bools_len, pairs_len, quads_len, quints_len, part_len, *]; done) | (simp [ints_len, bools_len, pairs_len, quads_len, quints_len]; omega) | rfl) | refine cons_eq ?_ ?_ | rfl)) | rfl | simp [E.lend, E.lendC, E.ev, E.cv, E.get, E.fill', E.fill, AV.sh, AC.sh, Res.sh, ints_len, *]) ?_)
 rintro r S ⟨x3, i3, h3, ⟨rfl, rfl⟩, hi3, hx3⟩
 obtain ⟨k, rfl⟩ : ∃ k : Nat, x3 = (k : Int) := ⟨x3.toNat, by omega⟩
 have hk1 := hx3.2.1 (by omega)
 refine x_pure rfl rfl rfl (by first | exact l_add rfl rfl rfl | exact L_bin rfl rfl rfl rfl) ?_
 have e : ((xs.length : Int) + (k : Int)) = ((xs.length + k : Nat) : Int) := by omega
 rw [e]
 refine EOps_go rfl rfl (EOp_call1 rfl rfl (by decide) rfl ca_121 (c_spec_l12Tail_nt l i3 h3 xs (xs.length + k) hb hi3 (by omega)) (by refine cons_eq ?_ (cons_eq ?_ (rfl)) <;> first | (refine lend_whole rfl ?_; first | assumption | exact ints_len _ | exact pairs_len _ | exact quads_len _ | exact quints_len _ | exact bools_len _ | (simp [ints_len, bools_len, pairs_len, quads_len, quints_len, part_len, *]; done) | (simp [ints_len, bools_len, pairs_len, quads_len, quints_len]; omega) | rfl) | (refine agg_eq ?_; repeat' (first | (refine lendC_whole rfl ?_; first | assumption | exact ints_len _ | exact pairs_len _ | exact quads_len _ | exact quints_len _ | exact bools_len _ | (simp [ints_len, bools_len, pairs_len, quads_len, quints_len, part_len, *]; done) | (simp [ints_len, bools_len, pairs_len, quads_len, quints_len]; omega) | rfl) | refine cons_eq ?_ ?_ | rfl)) | rfl | simp [E.lend, E.lendC, E.ev, E.cv, E.get, E.fill', E.fill, AV.sh, AC.sh, Res.sh, ints_len, *]) ?_)
 rintro r S ⟨ys, i4, h4, ⟨rfl, rfl⟩, hi4, hys⟩
 refine xas ?_
 refine xas ?_
 refine EOps_nil ?_
 refine G_ret ?_
 exact ⟨_, [1, 2], rfl, rfl, xs, ys, ⟨rfl, rfl⟩, by omega, by omega⟩

set_option maxRecDepth 20000 in
set_option maxHeartbeats 4000000 in
theorem c_spec_DrawAlignMap (l : List Int) (hb : byL l) : EFn Try.prog 43 [.c (.ro (bytes l))] [] (fun r S => ∃ (Y : Mp) (hs : List Int), (r = .tup [(true, mpO 0 Y), (false, [.sl 4 0 hs.length hs.length])] ∧ S = mpR 3 129 Y ++ [.row 3 1 (ints hs)]) ∧ hs.length ≤ 5 ∧ Y.c.vals.length ≤ 12 ∧ Y.c.rows.length ≤ 12 ∧ Y.c.piv.length ≤ 4 ∧ Y.tail.length ≤ 13) := by
 refine E_fn Try.func43 rfl (Nat.le_of_ble_eq_true rfl) ?_
 refine E_G (n := 0) rfl ?_
 refine G_seq ?_
 refine G_region' (L := [0, 1]) rfl ?_
 refine x_alloc rfl rfl rfl rfl za_29 ?_
 refine xas ?_
 refine EOps_nil ?_
 refine G_seq ?_
 refine g_tidy_A134_2 [0, 2, 3] ?_
 refine G_cut (L1 := [0, 1]) (L2 := [2, 3, 4, 5, 6, 7, 8]) rfl ?_
 refine xmv ?_
 refine EOps_go rfl rfl (EOp_call1 rfl rfl (by decide) rfl ca_74 (c_spec_l1New l _ hb) (by refine cons_eq ?_ (rfl) <;> first | (refine lend_whole rfl ?_; first | assumption | exact ints_len _ | exact pairs_len _ | exact quads_len _ | exact quints_len _ | exact bools_len _ | (simp [ints_len, bools_len, pairs_len, quads_len, quints_len, part_len, *]; done) | (simp [ints_len, bools_len, pairs_len, quads_len, quints_len]; omega) | rfl) | (refine agg_eq ?_; repeat' (first | (refine lendC_whole rfl ?_; first | assumption | exact ints_len _ | exact pairs_len _ | exact quads_len _ | exact quints_len _ | exact bools_len _ | (simp [ints_len, bools_len, pairs_len, quads_len, quints_len, part_len, *]; done) | (simp [ints_len, bools_len, pairs_len, quads_len, quints_len]; omega) | rfl) | refine cons_eq ?_ ?_ | rfl)) | rfl | simp [E.lend, E.lendC, E.ev, E.cv, E.get, E.fill', E.fill, AV.sh, AC.sh, Res.sh, ints_len, *]) ?_)
 rintro r S ⟨h1, rfl, rfl⟩
 refine EOps_nil ?_
 refine GOps_drop [0, 2, 3, 8] [1, 0] rfl rfl rfl ?_
 refine GOps_E ?_
 refine EOps_go rfl rfl (EOp_call1 rfl rfl (by decide) rfl ca_75 (c_spec_l12Any_m l 0 h1 hb (by unfold curOk; omega)) (by refine cons_eq ?_ (rfl) <;> first | (refine lend_whole rfl ?_; first | assumption | exact ints_len _ | exact pairs_len _ | exact quads_len _ | exact quints_len _ | exact bools_len _ | (simp [ints_len, bools_len, pairs_len, quads_len, quints_len, part_len, *]; done) | (simp [ints_len, bools_len, pairs_len, quads_len, quints_len]; omega) | rfl) | (refine agg_eq ?_; repeat' (first | (refine lendC_whole rfl ?_; first | assumption | exact ints_len _ | exact pairs_len _ | exact quads_len _ | exact quints_len _ | exact bools_len _ | (simp [ints_len, bools_len, pairs_len, quads_len, quints_len, part_len, *]; done) | (simp [ints_len, bools_len, pairs_len, quads_len, quints_len]; omega) | rfl) | refine cons_eq ?_ ?_ | rfl)) | rfl | simp [E.lend, E.lendC, E.ev, E.cv, E.get, E.fill', E.fill, AV.sh, AC.sh, Res.sh, ints_len, *]) ?_)
 rintro r S ⟨Y, hs, i2, h2, ⟨rfl, rfl⟩, hi2, hhs, hyv, hyr, hyp, hyt⟩
 refine xmv ?_
 refine x_pure rfl rfl rfl (L_extract rfl rfl) ?_
 refine x_pure rfl rfl rfl (L_extract rfl rfl) ?_
 refine x_alloc rfl rfl rfl rfl za_29 ?_
 refine EOps_go rfl rfl (EOp_store rfl rfl rfl (by first | exact s_bp ty_29 | exact s_ep ty_29) ?_)
 refine xas ?_
 refine EOps_nil ?_
 refine G_seq ?_
 refine G_region' (L := [0, 1, 2, 3]) rfl ?_
 refine x_light rfl rfl rfl (L_load rfl (by first | exact d_bp ty_29 | exact ld_rp ty_29 rfl | exact d_ep ty_29)) ?_
 refine xmv ?_
 refine EOps_go rfl rfl (EOp_store rfl rfl rfl (by first | exact s_bp ty_29 | exact s_ep ty_29) ?_)
 refine xas ?_
 refine EOps_nil ?_
 refine G_ret ?_
 exact ⟨_, [2, 3, 4, 5, 6], rfl, rfl, Y, hs, ⟨rfl, rfl⟩, hhs, hyv, hyr, hyp, hyt⟩

set_option maxRecDepth 20000 in
set_option maxHeartbeats 2000000 in
theorem c_spec_l2Values_qv (l : List Int) (i h most : Int) (hb : byL l) (hi : curOk l i) (hm : 0 ≤ most ∧ most ≤ 100000) : EFn Try.prog 120 [.c (.bp 0 0), .c (.sc (.int .i64 most))] [.box (curC l i h), .box [.sc (.slice none 0 0), .sc (.slice none 0 0), .sc (.slice none 0 0), .sc (.slice none 0 0), .sc (.int .i64 0)], .box [.sc (.slice none 0 0), .sc (.slice none 0 0), .sc (.slice none 0 0), .sc (.slice none 0 0), .sc (.int .i64 0)], .box [.sc (.slice none 0 0), .sc (.slice none 0 0), .sc (.slice none 0 0), .sc (.slice none 0 0), .sc (.int .i64 0)], .box [.sc (.slice none 0 0), .sc (.slice none 0 0), .sc (.slice none 0 0), .sc (.slice none 0 0), .sc (.int .i64 0)]] (fun r S => ∃ (xs : List Int) (i' h' : Int), (r = .c (.sl 5 0 xs.length xs.length) ∧ S = [.box (curC l i' h'), .box [.sc (.slice none 0 0), .sc (.slice none 0 0), .sc (.slice none 0 0), .sc (.slice none 0 0), .sc (.int .i64 0)], .box [.sc (.slice none 0 0), .sc (.slice none 0 0), .sc (.slice none 0 0), .sc (.slice none 0 0), .sc (.int .i64 0)], .box [.sc (.slice none 0 0), .sc (.slice none 0 0), .sc (.slice none 0 0), .sc (.slice none 0 0), .sc (.int .i64 0)], .box [.sc (.slice none 0 0), .sc (.slice none 0 0), .sc (.slice none 0 0), .sc (.slice none 0 0), .sc (.int .i64 0)], .row 3 1 (ints xs)]) ∧ curOk l i' ∧ (xs.length : Int) ≤ most) := by
 refine E_fn Try.func120 rfl (Nat.le_of_ble_eq_true rfl) ?_
 refine E_seq ?_
 refine E_region' (L := [0]) rfl ?_
 refine xas ?_
 refine EOps_nil ?_
 refine E_seq ?_
 refine E_region' (L := [0, 1]) rfl ?_
 refine EOps_go rfl rfl (Heavy.op (H_bslice rfl rfl (by decide) sl_24 ty_3 za_3 ⟨rfl, by decide⟩ (by decide) rfl rfl rfl rfl ?_))
 refine xas ?_
 refine EOps_nil ?_
 refine E_seq ?_
 refine e_tidy_A134_0 [0, 1, 4, 5] ?_
 refine E_region' (L := [0, 1, 2, 3]) rfl ?_
 refine xmv ?_
 refine EOps_go rfl rfl (Heavy.op (H_bslice rfl rfl (by decide) sl_24 ty_3 za_3 ⟨rfl, by decide⟩ (by decide) rfl rfl rfl rfl ?_))
 refine EOps_go rfl rfl (EOp_call1 rfl rfl (by decide) rfl ca_159 (c_spec_l1PickInt l i h _ 5 [3, 10, 30, 1000] 4 hb hi (by decide) rfl rfl) (by refine cons_eq ?_ (cons_eq ?_ (rfl)) <;> first | (refine lend_whole rfl ?_; first | assumption | exact ints_len _ | exact pairs_len _ | exact quads_len _ | exact quints_len _ | exact bools_len _ | (simp [ints_len, bools_len, pairs_len, quads_len, quints_len, part_len, *]; done) | (simp [ints_len, bools_len, pairs_len, quads_len, quints_len]; omega) | rfl) | (refine agg_eq ?_; repeat' (first | (refine lendC_whole rfl ?_; first | assumption | exact ints_len _ | exact pairs_len _ | exact quads_len _ | exact quints_len _ | exact bools_len _ | (simp [ints_len, bools_len, pairs_len, quads_len, quints_len, part_len, *]; done) | (simp [ints_len, bools_len, pairs_len, quads_len, quints_len]; omega) | rfl) | refine cons_eq ?_ ?_ | rfl)) | rfl | simp [E.lend, E.lendC, E.ev, E.cv, E.get, E.fill', E.fill, AV.sh, AC.sh, Res.sh, ints_len, *]) ?_)
 rintro r S ⟨w, i1, h1, ⟨rfl, rfl⟩, hi1, hw⟩
 have hw' : 0 < w ∧ w ≤ 1000 := by simp at hw; omega
 refine xas ?_
 refine EOps_nil ?_
 refine E_seq ?_
 refine E_seq ?_
 refine e_tidy_A134_0 [0, 1, 4, 5, 6] ?_
 refine E_region' (L := [0, 1, 2, 3, 4]) rfl ?_
 refine xmv ?_
 refine xmv ?_
 refine x_pure rfl rfl rfl (by first | exact l_add rfl rfl rfl | exact L_bin rfl rfl rfl rfl) ?_
 refine EOps_go rfl rfl (EOp_call1 rfl rfl (by decide) rfl ca_114 (c_spec_l1Below l i1 h1 (most + 1) _ hb hi1 (by omega)) (by refine cons_eq ?_ (cons_eq ?_ (rfl)) <;> first | (refine lend_whole rfl ?_; first | assumption | exact ints_len _ | exact pairs_len _ | exact quads_len _ | exact quints_len _ | exact bools_len _ | (simp [ints_len, bools_len, pairs_len, quads_len, quints_len, part_len, *]; done) | (simp [ints_len, bools_len, pairs_len, quads_len, quints_len]; omega) | rfl) | (refine agg_eq ?_; repeat' (first | (refine lendC_whole rfl ?_; first | assumption | exact ints_len _ | exact pairs_len _ | exact quads_len _ | exact quints_len _ | exact bools_len _ | (simp [ints_len, bools_len, pairs_len, quads_len, quints_len, part_len, *]; done) | (simp [ints_len, bools_len, pairs_len, quads_len, quints_len]; omega) | rfl) | refine cons_eq ?_ ?_ | rfl)) | rfl | simp [E.lend, E.lendC, E.ev, E.cv, E.get, E.fill', E.fill, AV.sh, AC.sh, Res.sh, ints_len, *]) ?_)
 rintro r S ⟨x2, i2, h2, ⟨rfl, rfl⟩, hi2, hx2⟩
 obtain ⟨k, rfl⟩ : ∃ k : Nat, x2 = (k : Int) := ⟨x2.toNat, by omega⟩
 have hk1 := hx2.2.1 (by omega)
 refine xas ?_
 refine EOps_nil ?_
 refine E_block ?_
 refine e_for_A134_1 (α := Nat × List Int × Int × Int) [0, 1, 4, 6] (fun (n, xs, i3, h3) => [(7, .c (.sc (.int .i64 ((n : Int))))), (5, .c (.sl 5 0 xs.length xs.length)), (8, .any)]) (fun (n, xs, i3, h3) => [.box (curC l i3 h3), .box [.sc (.slice none 0 0), .sc (.slice none 0 0), .sc (.slice none 0 0), .sc (.slice none 0 0), .sc (.int .i64 0)], .box [.sc (.slice none 0 0), .sc (.slice none 0 0), .sc (.slice none 0 0), .sc (.slice none 0 0), .sc (.int .i64 0)], .box [.sc (.slice none 0 0), .sc (.slice none 0 0), .sc (.slice none 0 0), .sc (.slice none 0 0), .sc (.int .i64 0)], .box [.sc (.slice none 0 0), .sc (.slice none 0 0), .sc (.slice none 0 0), .sc (.slice none 0 0), .sc (.int .i64 0)], .row 3 1 (ints xs), _]) (fun (n, xs, i3, h3) => (n : Int) + xs.length ≤ most ∧ curOk l i3) (fun (n, xs, i3, h3) => n) ((k, [], i2, h2)) ?_ (rfl) ⟨.inr rfl, .inr rfl, .inl rfl, trivial⟩ ?_
 ·exact ⟨by simp; omega, hi2⟩
 rintro ⟨n, xs, i3, h3⟩ ⟨hnx, hi3⟩
 dsimp only at *
 refine E_seq ?_
 refine E_seq ?_
 refine E_region' (L := [0, 1]) rfl ?_
 refine xmv ?_
 refine x_pure rfl rfl rfl (L_bin rfl rfl rfl rfl) ?_
 refine EOps_nil ?_
 refine E_cond rfl (fun hc18 => ?_) (fun hc18 => ?_)
 ·have hn1 : 0 < n := by simp at hc18; omega
  refine E_skip ?_
  refine E_seq ?_
  refine E_block ?_
  refine E_seq ?_
  refine e_tidy_A134_0 [0, 1, 4, 5, 6, 7, 8, 18] ?_
  refine E_region' (L := [0, 1, 2, 3, 4, 5, 6]) rfl ?_
  refine xmv ?_
  refine xmv ?_
  refine EOps_go rfl rfl (EOp_call1 rfl rfl (by decide) rfl ca_114 (c_spec_l1Below l i3 h3 w _ hb hi3 (by omega)) (by refine cons_eq ?_ (cons_eq ?_ (rfl)) <;> first | (refine lend_whole rfl ?_; first | assumption | exact ints_len _ | exact pairs_len _ | exact quads_len _ | exact quints_len _ | exact bools_len _ | (simp [ints_len, bools_len, pairs_len, quads_len, quints_len, part_len, *]; done) | (simp [ints_len, bools_len, pairs_len, quads_len, quints_len]; omega) | rfl) | (refine agg_eq ?_; repeat' (first | (refine lendC_whole rfl ?_; first | assumption | exact ints_len _ | exact pairs_len _ | exact quads_len _ | exact quints_len _ | exact bools_len _ | (simp [ints_len, bools_len, pairs_len, quads_len, quints_len, part_len, *]; done) | (simp [ints_len, bools_len, pairs_len, quads_len, quints_len]; omega) | rfl) | refine cons_eq ?_ ?_ | rfl)) | rfl | simp [E.lend, E.lendC, E.ev, E.cv, E.get, E.fill', E.fill, AV.sh, AC.sh, Res.sh, ints_len, *]) ?_)
  rintro r S ⟨x4, i4, h4, ⟨rfl, rfl⟩, hi4, hx4⟩
  refine xmv ?_
  refine x_pure rfl rfl rfl (L_quo rfl rfl rfl (by omega)) ?_
  refine x_pure rfl rfl rfl (by first | exact l_sub rfl rfl rfl | exact L_bin rfl rfl rfl rfl) ?_
  generalize hzz : (IntKind.i64.wrap (x4 - IntKind.i64.wrap (Int.tdiv w 3))) = zz
  refine xas ?_
  refine EOps_nil ?_
  refine E_region' (L := [0, 1, 2, 3, 4]) rfl ?_
  refine xmv ?_
  refine xmv ?_
  refine EOps_go rfl rfl (Heavy.op (H_bslice_ro rfl rfl (by decide) sl_24 ty_3 za_3 ⟨rfl, by decide⟩ (by decide) rfl rfl rfl rfl ?_))
  refine EOps_go rfl rfl (EOp_append (news := ints [zz]) rfl rfl (by decide) sl_24 ty_3 by_3 za_3 ⟨rfl, by decide⟩ rfl (by first | rfl | assumption) (by first | assumption | exact ints_len _ | exact pairs_len _ | exact quads_len _ | exact quints_len _ | exact bools_len _ | (simp [ints_len, bools_len, pairs_len, quads_len, quints_len, part_len, *]; done) | (simp [ints_len, bools_len, pairs_len, quads_len, quints_len]; omega) | rfl) (by first | (refine lend_whole rfl ?_; first | assumption | exact ints_len _ | exact pairs_len _ | exact quads_len _ | exact quints_len _ | exact bools_len _ | (simp [ints_len, bools_len, pairs_len, quads_len, quints_len, part_len, *]; done) | (simp [ints_len, bools_len, pairs_len, quads_len, quints_len]; omega) | rfl) | rfl | simp [E.lend, lendC]) (by first | exact ints_row _ | exact pairs_row _ | exact quads_row _ | exact quints_row _ | exact bools_row _ | (intro r hr; simp [chunk] at hr; subst hr; exact ⟨rfl, rfl⟩)) (by simp [ints_len, bools_len, pairs_len, quads_len, quints_len, chunk]; omega) ?_)
  refine xas ?_
  refine EOps_nil ?_
  refine E_region' (L := [0, 1, 2]) rfl ?_
  refine xmv ?_
  refine x_pure rfl rfl rfl (by first | exact l_sub rfl rfl rfl | exact L_bin rfl rfl rfl rfl) ?_
  refine xas ?_
  refine EOps_nil ?_
  refine ⟨(n - 1, xs ++ [zz], i4, h4), ?_, ?_, (by dsimp only; rw [← ints_app]; rfl), ⟨.inr (int_eq (by first | omega | (dsimp only; omega))), .inr ((by dsimp only; rw [← ints_lenApp]; rfl)), .inl rfl, trivial⟩, ⟨.inr rfl, .inr rfl, .inr rfl, .inr rfl, trivial⟩⟩
  ·dsimp only; omega
  ·exact ⟨by simp; omega, hi4⟩
 ·refine E_exit ?_
  refine E_seq ?_
  refine E_region' (L := [0, 1]) rfl ?_
  refine xmv ?_
  refine xas ?_
  refine EOps_nil ?_
  refine E_ret ?_
  exact ⟨_, [5], rfl, rfl, xs, i3, h3, ⟨rfl, rfl⟩, hi3, by omega⟩

set_option maxRecDepth 20000 in
set_option maxHeartbeats 2000000 in
theorem c_spec_l12Tail_qt (l : List Int) (i h : Int) (xs : List Int) (n : Nat) (hb : byL l) (hi : curOk l i) (hn : n ≤ 100000) : EFn Try.prog 121 [.c (.bp 0 0), .c (.sc (.int .i64 (n : Int)))] [.box (curC l i h), .box [.sc (.slice none 0 0), .sc (.slice none 0 0), .sc (.slice none 0 0), .sc (.slice none 0 0), .sc (.int .i64 0)], .box [.sc (.slice none 0 0), .sc (.slice none 0 0), .sc (.slice none 0 0), .sc (.slice none 0 0), .sc (.int .i64 0)], .box [.sc (.slice none 0 0), .sc (.slice none 0 0), .sc (.slice none 0 0), .sc (.slice none 0 0), .sc (.int .i64 0)], .box [.sc (.slice none 0 0), .sc (.slice none 0 0), .sc (.slice none 0 0), .sc (.slice none 0 0), .sc (.int .i64 0)], .row 3 1 (ints xs)] (fun r S => ∃ (ys : List Int) (i' h' : Int), (r = .c (.sl 6 0 ys.length ys.length) ∧ S = [.box (curC l i' h'), .box [.sc (.slice none 0 0), .sc (.slice none 0 0), .sc (.slice none 0 0), .sc (.slice none 0 0), .sc (.int .i64 0)], .box [.sc (.slice none 0 0), .sc (.slice none 0 0), .sc (.slice none 0 0), .sc (.slice none 0 0), .sc (.int .i64 0)], .box [.sc (.slice none 0 0), .sc (.slice none 0 0), .sc (.slice none 0 0), .sc (.slice none 0 0), .sc (.int .i64 0)], .box [.sc (.slice none 0 0), .sc (.slice none 0 0), .sc (.slice none 0 0), .sc (.slice none 0 0), .sc (.int .i64 0)], .row 3 1 (ints xs), .row 3 1 (ints ys)]) ∧ curOk l i' ∧ ys.length = n) := by
 refine E_fn Try.func121 rfl (Nat.le_of_ble_eq_true rfl) ?_
 refine E_seq ?_
 refine E_region' (L := [0]) rfl ?_
 refine xas ?_
 refine EOps_nil ?_
 refine E_seq ?_
 refine E_region' (L := [0, 1]) rfl ?_
 refine EOps_go rfl rfl (Heavy.op (H_bslice rfl rfl (by decide) sl_24 ty_3 za_3 ⟨rfl, by decide⟩ (by decide) rfl rfl rfl rfl ?_))
 refine xas ?_
 refine EOps_nil ?_
 refine E_seq ?_
 refine E_seq ?_
 refine E_region' (L := [0]) rfl ?_
 refine xas ?_
 refine EOps_nil ?_
 refine E_block ?_
 refine e_for_A134_1 (α := Nat × List Int × Int × Int) [0, 1, 4] (fun (k, ys, i3, h3) => [(6, .c (.sc (.int .i64 ((k : Int))))), (5, .c (.sl 6 0 ys.length ys.length)), (7, .any)]) (fun (k, ys, i3, h3) => [.box (curC l i3 h3), .box [.sc (.slice none 0 0), .sc (.slice none 0 0), .sc (.slice none 0 0), .sc (.slice none 0 0), .sc (.int .i64 0)], .box [.sc (.slice none 0 0), .sc (.slice none 0 0), .sc (.slice none 0 0), .sc (.slice none 0 0), .sc (.int .i64 0)], .box [.sc (.slice none 0 0), .sc (.slice none 0 0), .sc (.slice none 0 0), .sc (.slice none 0 0), .sc (.int .i64 0)], .box [.sc (.slice none 0 0), .sc (.slice none 0 0), .sc (.slice none 0 0), .sc (.slice none 0 0), .sc (.int .i64 0)], .row 3 1 (ints xs), .row 3 1 (ints ys)]) (fun (k, ys, i3, h3) => ys.length = k ∧ k ≤ n ∧ curOk l i3) (fun (k, ys, i3, h3) => n - k) ((0, [], i, h)) ?_ (rfl) ⟨.inr rfl, .inr rfl, .inl rfl, trivial⟩ ?_
 ·exact ⟨rfl, Nat.zero_le _, hi⟩
 rintro ⟨k, ys, i3, h3⟩ ⟨hyk, hkn, hi3⟩
 dsimp only at *
 refine E_seq ?_
 refine E_seq ?_
 refine E_region' (L := [0, 1, 2]) rfl ?_
 refine xmv ?_
 refine xmv ?_
 refine x_pure rfl rfl rfl (L_bin rfl rfl rfl rfl) ?_
 refine EOps_nil ?_
 refine E_cond rfl (fun hc11 => ?_) (fun hc11 => ?_)
 ·have hn1 : k < n := by simp at hc11; omega
  refine E_skip ?_
  refine E_seq ?_
  refine E_block ?_
  refine E_seq ?_
  refine e_tidy_A134_0 [0, 1, 4, 5, 6, 7, 11] ?_
  refine E_region' (L := [0, 1, 2, 3]) rfl ?_
  refine xmv ?_
  refine EOps_go rfl rfl (EOp_call1 rfl rfl (by decide) rfl ca_114 (c_spec_l1Below l i3 h3 40 _ hb hi3 (by decide)) (by refine cons_eq ?_ (cons_eq ?_ (rfl)) <;> first | (refine lend_whole rfl ?_; first | assumption | exact ints_len _ | exact pairs_len _ | exact quads_len _ | exact quints_len _ | exact bools_len _ | (simp [ints_len, bools_len, pairs_len, quads_len, quints_len, part_len, *]; done) | (simp [ints_len, bools_len, pairs_len, quads_len, quints_len]; omega) | rfl) | (refine agg_eq ?_; repeat' (first | (refine lendC_whole rfl ?_; first | assumption | exact ints_len _ | exact pairs_len _ | exact quads_len _ | exact quints_len _ | exact bools_len _ | (simp [ints_len, bools_len, pairs_len, quads_len, quints_len, part_len, *]; done) | (simp [ints_len, bools_len, pairs_len, quads_len, quints_len]; omega) | rfl) | refine cons_eq ?_ ?_ | rfl)) | rfl | simp [E.lend, E.lendC, E.ev, E.cv, E.get, E.fill', E.fill, AV.sh, AC.sh, Res.sh, ints_len, *]) ?_)
  rintro r S ⟨x4, i4, h4, ⟨rfl, rfl⟩, hi4, hx4⟩
  refine x_pure rfl rfl rfl (by first | exact l_sub rfl rfl rfl | exact L_bin rfl rfl rfl rfl) ?_
  generalize hzz : (x4 - 5 : Int) = zz
  refine xas ?_
  refine EOps_nil ?_
  refine E_region' (L := [0, 1, 2, 3, 4]) rfl ?_
  refine xmv ?_
  refine xmv ?_
  refine EOps_go rfl rfl (Heavy.op (H_bslice_ro rfl rfl (by decide) sl_24 ty_3 za_3 ⟨rfl, by decide⟩ (by decide) rfl rfl rfl rfl ?_))
  refine EOps_go rfl rfl (EOp_append (news := ints [zz]) rfl rfl (by decide) sl_24 ty_3 by_3 za_3 ⟨rfl, by decide⟩ rfl (by first | rfl | assumption) (by first | assumption | exact ints_len _ | exact pairs_len _ | exact quads_len _ | exact quints_len _ | exact bools_len _ | (simp [ints_len, bools_len, pairs_len, quads_len, quints_len, part_len, *]; done) | (simp [ints_len, bools_len, pairs_len, quads_len, quints_len]; omega) | rfl) (by first | (refine lend_whole rfl ?_; first | assumption | exact ints_len _ | exact pairs_len _ | exact quads_len _ | exact quints_len _ | exact bools_len _ | (simp [ints_len, bools_len, pairs_len, quads_len, quints_len, part_len, *]; done) | (simp [ints_len, bools_len, pairs_len, quads_len, quints_len]; omega) | rfl) | rfl | simp [E.lend, lendC]) (by first | exact ints_row _ | exact pairs_row _ | exact quads_row _ | exact quints_row _ | exact bools_row _ | (intro r hr; simp [chunk] at hr; subst hr; exact ⟨rfl, rfl⟩)) (by simp [ints_len, bools_len, pairs_len, quads_len, quints_len, chunk]; omega) ?_)
  refine xas ?_
  refine EOps_nil ?_
  refine E_region' (L := [0, 1, 2]) rfl ?_
  refine xmv ?_
  refine x_pure rfl rfl rfl (by first | exact l_add rfl rfl rfl | exact L_bin rfl rfl rfl rfl) ?_
  refine xas ?_
  refine EOps_nil ?_
  refine ⟨(k + 1, ys ++ [zz], i4, h4), ?_, ?_, (by dsimp only; rw [← ints_app]; rfl), ⟨.inr (int_eq (by first | omega | (dsimp only; omega))), .inr ((by dsimp only; rw [← ints_lenApp]; rfl)), .inl rfl, trivial⟩, ⟨.inr rfl, .inr rfl, .inr rfl, trivial⟩⟩
  ·dsimp only; omega
  ·exact ⟨by simp; omega, by dsimp only; omega, hi4⟩
 ·have hkn2 : k = n := by simp at hc11; omega
  refine E_exit ?_
  refine E_seq ?_
  refine E_region' (L := [0, 1]) rfl ?_
  refine xmv ?_
  refine xas ?_
  refine EOps_nil ?_
  refine E_ret ?_
  exact ⟨_, [6], rfl, rfl, ys, i3, h3, ⟨rfl, rfl⟩, hi3, by omega⟩

set_option maxRecDepth 20000 in
set_option maxHeartbeats 4000000 in
theorem c_spec_l4Value_qw (l : List Int) (i h : Int) (Y : Mp) (xs : List Int) (hb : byL l) (hi : curOk l i) (hX : Y.c.vals.length ≤ 1048576) : EFn Try.prog 76 [.c (.bp 0 0), .agg (crkO 5 Y.c)] [.box (curC l i h), .box [.sc (.slice none 0 0), .sc (.slice none 0 0), .sc (.slice none 0 0), .sc (.slice none 0 0), .sc (.int .i64 0)], .box [.sc (.slice none 0 0), .sc (.slice none 0 0), .sc (.slice none 0 0), .sc (.slice none 0 0), .sc (.int .i64 0)], .box [.sc (.slice none 0 0), .sc (.slice none 0 0), .sc (.slice none 0 0), .sc (.slice none 0 0), .sc (.int .i64 0)], .box [.sc (.slice none 0 0), .sc (.slice none 0 0), .sc (.slice none 0 0), .sc (.slice none 0 0), .sc (.int .i64 0)], .row 3 1 (ints Y.c.vals), .row 3 1 (ints Y.c.rows), .row 129 2 (pairs Y.c.piv), .row 3 1 (ints Y.tail), .box (mpO 5 Y), .box (crkO 5 Y.c), .row 3 1 (ints xs)] (fun r S => ∃ (v i' h' : Int), (r = .c (.sc (.int .i64 v)) ∧ S = [.box (curC l i' h'), .box [.sc (.slice none 0 0), .sc (.slice none 0 0), .sc (.slice none 0 0), .sc (.slice none 0 0), .sc (.int .i64 0)], .box [.sc (.slice none 0 0), .sc (.slice none 0 0), .sc (.slice none 0 0), .sc (.slice none 0 0), .sc (.int .i64 0)], .box [.sc (.slice none 0 0), .sc (.slice none 0 0), .sc (.slice none 0 0), .sc (.slice none 0 0), .sc (.int .i64 0)], .box [.sc (.slice none 0 0), .sc (.slice none 0 0), .sc (.slice none 0 0), .sc (.slice none 0 0), .sc (.int .i64 0)], .row 3 1 (ints Y.c.vals), .row 3 1 (ints Y.c.rows), .row 129 2 (pairs Y.c.piv), .row 3 1 (ints Y.tail), .box (mpO 5 Y), .box (crkO 5 Y.c), .row 3 1 (ints xs)]) ∧ curOk l i') := by
 refine E_fn Try.func76 rfl (Nat.le_of_ble_eq_true rfl) ?_
 refine E_seq ?_
 refine E_region' (L := [0, 1]) rfl ?_
 refine x_box rfl rfl rfl rfl rfl ?_
 refine xas ?_
 refine EOps_nil ?_
 refine E_seq ?_
 refine E_seq ?_
 refine e_tidy_A134_3 [0, 1, 3, 4] ?_
 refine E_region' (L := [0, 1, 2, 3, 4, 5, 6, 7, 8]) rfl ?_
 refine x_pure rfl rfl rfl (l_field rfl fo_27_0) ?_
 refine x_light rfl rfl rfl (L_load rfl (by first | exact d_bp ty_24 | exact ld_rp ty_24 rfl | exact d_ep ty_24)) ?_
 refine x_pure rfl rfl rfl (l_len rfl sl_24) ?_
 refine x_pure rfl rfl rfl (L_bin rfl rfl rfl rfl) ?_
 refine xmv ?_
 refine EOps_split 9 (b := _) rfl (fun hg9 => ?_) (fun hg9 => ?_)
 ·have hn0 : 0 < Y.c.vals.length := by simp at hg9; omega
  refine xmv ?_
  refine EOps_go rfl rfl (EOp_call1 rfl rfl (by decide) rfl ca_128 (c_spec_l1Once l i h 4 _ hb hi (by decide)) (by refine cons_eq ?_ (cons_eq ?_ (rfl)) <;> first | (refine lend_whole rfl ?_; first | assumption | exact ints_len _ | exact pairs_len _ | exact quads_len _ | exact quints_len _ | exact bools_len _ | (simp [ints_len, bools_len, pairs_len, quads_len, quints_len, part_len, *]; done) | (simp [ints_len, bools_len, pairs_len, quads_len, quints_len]; omega) | rfl) | (refine agg_eq ?_; repeat' (first | (refine lendC_whole rfl ?_; first | assumption | exact ints_len _ | exact pairs_len _ | exact quads_len _ | exact quints_len _ | exact bools_len _ | (simp [ints_len, bools_len, pairs_len, quads_len, quints_len, part_len, *]; done) | (simp [ints_len, bools_len, pairs_len, quads_len, quints_len]; omega) | rfl) | refine cons_eq ?_ ?_ | rfl)) | rfl | simp [E.lend, E.lendC, E.ev, E.cv, E.get, E.fill', E.fill, AV.sh, AC.sh, Res.sh, ints_len, *]) ?_)
  rintro r S ⟨b1, i1, h1, ⟨rfl, rfl⟩, hi1⟩
  refine x_pure rfl rfl rfl (L_not rfl rfl) ?_
  refine x_pure rfl rfl rfl (L_pick rfl rfl) ?_
  refine EOps_nil ?_
  refine E_cond rfl (fun hc13 => ?_) (fun hc13 => ?_)
  ·refine E_seq ?_
   refine e_tidy_A134_3 [0, 1, 3, 4, 13] ?_
   refine E_drawU mixed ?_
   refine u_pure 0 rfl rfl rfl (l_field rfl fo_27_0) ?_
   refine u_pure 2 rfl rfl rfl (L_move rfl) ?_
   refine u_pure 3 rfl rfl rfl (l_field rfl fo_27_0) ?_
   refine u_pure 9 rfl rfl rfl (L_move rfl) ?_
   refine u_any 1 [4] ⟨?_, ?_, trivial⟩
   ·refine u_op 1 rfl rfl (EOp_light rfl (by decide) (L_load rfl (by first | exact d_bp ty_24 | exact ld_rp ty_24 rfl | exact d_ep ty_24)) ?_)
    refine u_any 4 [] ⟨?_, trivial⟩
    refine u_op 4 rfl rfl (EOp_light rfl (by decide) (L_load rfl (by first | exact d_bp ty_24 | exact ld_rp ty_24 rfl | exact d_ep ty_24)) ?_)
    refine u_pure 5 rfl rfl rfl (l_len rfl sl_24) ?_
    refine u_any 6 [] ⟨?_, trivial⟩
    refine u_op 6 rfl rfl (EOp_call1 rfl rfl (by decide) rfl ca_114 (c_spec_l1Below l i1 h1 (Y.c.vals.length : Int) _ hb hi1 (by omega)) (by refine cons_eq ?_ (cons_eq ?_ (rfl)) <;> first | (refine lend_whole rfl ?_; first | assumption | exact ints_len _ | exact pairs_len _ | exact quads_len _ | exact quints_len _ | exact bools_len _ | (simp [ints_len, bools_len, pairs_len, quads_len, quints_len, part_len, *]; done) | (simp [ints_len, bools_len, pairs_len, quads_len, quints_len]; omega) | rfl) | (refine agg_eq ?_; repeat' (first | (refine lendC_whole rfl ?_; first | assumption | exact ints_len _ | exact pairs_len _ | exact quads_len _ | exact quints_len _ | exact bools_len _ | (simp [ints_len, bools_len, pairs_len, quads_len, quints_len, part_len, *]; done) | (simp [ints_len, bools_len, pairs_len, quads_len, quints_len]; omega) | rfl) | refine cons_eq ?_ ?_ | rfl)) | rfl | simp [E.lend, E.lendC, E.ev, E.cv, E.get, E.fill', E.fill, AV.sh, AC.sh, Res.sh, ints_len, *]) ?_)
    rintro r S ⟨x2, i2, h2, ⟨rfl, rfl⟩, hi2, hx2⟩
    obtain ⟨kk, rfl⟩ : ∃ kk : Nat, x2 = (kk : Int) := ⟨x2.toNat, by omega⟩
    have hk1 : kk < Y.c.vals.length := by have := hx2.2.1 (by omega); omega
    obtain ⟨y, hy⟩ := at_lt (l := Y.c.vals) hk1
    refine u_pure 7 rfl rfl rfl (L_index rfl rfl (by first | exact i_ro sl_24 ty_3 | exact i_sl sl_24 ty_3)) ?_
    refine u_any 8 [10] ⟨?_, ?_, trivial⟩
    ·refine u_op 8 rfl rfl (EOp_light rfl (by decide) (L_load rfl (by first | exact d_bp ty_3 | exact ld_rp ty_3 rfl | exact d_ep ty_3)) ?_)
     refine u_any 10 [] ⟨?_, trivial⟩
     refine u_op 10 rfl rfl (EOp_call1 rfl rfl (by decide) rfl ca_114 (c_spec_l1Below l i2 h2 3 _ hb hi2 (by decide)) (by refine cons_eq ?_ (cons_eq ?_ (rfl)) <;> first | (refine lend_whole rfl ?_; first | assumption | exact ints_len _ | exact pairs_len _ | exact quads_len _ | exact quints_len _ | exact bools_len _ | (simp [ints_len, bools_len, pairs_len, quads_len, quints_len, part_len, *]; done) | (simp [ints_len, bools_len, pairs_len, quads_len, quints_len]; omega) | rfl) | (refine agg_eq ?_; repeat' (first | (refine lendC_whole rfl ?_; first | assumption | exact ints_len _ | exact pairs_len _ | exact quads_len _ | exact quints_len _ | exact bools_len _ | (simp [ints_len, bools_len, pairs_len, quads_len, quints_len, part_len, *]; done) | (simp [ints_len, bools_len, pairs_len, quads_len, quints_len]; omega) | rfl) | refine cons_eq ?_ ?_ | rfl)) | rfl | simp [E.lend, E.lendC, E.ev, E.cv, E.get, E.fill', E.fill, AV.sh, AC.sh, Res.sh, ints_len, *]) ?_)
     rintro r S ⟨x3, i3, h3, ⟨rfl, rfl⟩, hi3, hx3⟩
     refine u_pure 11 rfl rfl rfl (by first | exact l_add rfl rfl rfl | exact L_bin rfl rfl rfl rfl) ?_
     refine u_pure 12 rfl rfl rfl (by first | exact l_sub rfl rfl rfl | exact L_bin rfl rfl rfl rfl) ?_
     refine u_pure 13 rfl rfl rfl (L_assign rfl) ?_
     refine u_done ?_
     refine E_ret ?_
     first
      | exact ⟨_, [], rfl, rfl, _, i3, h3, ⟨rfl, rfl⟩, hi3⟩
      | exact ⟨_, [], rfl, rfl, _, i4, h4, ⟨rfl, rfl⟩, hi4⟩
    ·refine u_op 10 rfl rfl (EOp_call1 rfl rfl (by decide) rfl ca_114 (c_spec_l1Below l i2 h2 3 _ hb hi2 (by decide)) (by refine cons_eq ?_ (cons_eq ?_ (rfl)) <;> first | (refine lend_whole rfl ?_; first | assumption | exact ints_len _ | exact pairs_len _ | exact quads_len _ | exact quints_len _ | exact bools_len _ | (simp [ints_len, bools_len, pairs_len, quads_len, quints_len, part_len, *]; done) | (simp [ints_len, bools_len, pairs_len, quads_len, quints_len]; omega) | rfl) | (refine agg_eq ?_; repeat' (first | (refine lendC_whole rfl ?_; first | assumption | exact ints_len _ | exact pairs_len _ | exact quads_len _ | exact quints_len _ | exact bools_len _ | (simp [ints_len, bools_len, pairs_len, quads_len, quints_len, part_len, *]; done) | (simp [ints_len, bools_len, pairs_len, quads_len, quints_len]; omega) | rfl) | refine cons_eq ?_ ?_ | rfl)) | rfl | simp [E.lend, E.lendC, E.ev, E.cv, E.get, E.fill', E.fill, AV.sh, AC.sh, Res.sh, ints_len, *]) ?_)
     rintro r S ⟨x3, i3, h3, ⟨rfl, rfl⟩, hi3, hx3⟩
     refine u_any 8 [] ⟨?_, trivial⟩
     refine u_op 8 rfl rfl (EOp_light rfl (by decide) (L_load rfl (by first | exact d_bp ty_3 | exact ld_rp ty_3 rfl | exact d_ep ty_3)) ?_)
     refine u_pure 11 rfl rfl rfl (by first | exact l_add rfl rfl rfl | exact L_bin rfl rfl rfl rfl) ?_
     refine u_pure 12 rfl rfl rfl (by first | exact l_sub rfl rfl rfl | exact L_bin rfl rfl rfl rfl) ?_
     refine u_pure 13 rfl rfl rfl (L_assign rfl) ?_
     refine u_done ?_
     refine E_ret ?_
     first
      | exact ⟨_, [], rfl, rfl, _, i3, h3, ⟨rfl, rfl⟩, hi3⟩
      | exact ⟨_, [], rfl, rfl, _, i4, h4, ⟨rfl, rfl⟩, hi4⟩
   ·refine u_op 4 rfl rfl (EOp_light rfl (by decide) (L_load rfl (by first | exact d_bp ty_24 | exact ld_rp ty_24 rfl | exact d_ep ty_24)) ?_)
    refine u_pure 5 rfl rfl rfl (l_len rfl sl_24) ?_
    refine u_any 1 [6] ⟨?_, ?_, trivial⟩
    ·refine u_op 1 rfl rfl (EOp_light rfl (by decide) (L_load rfl (by first | exact d_bp ty_24 | exact ld_rp ty_24 rfl | exact d_ep ty_24)) ?_)
     refine u_any 6 [] ⟨?_, trivial⟩
     refine u_op 6 rfl rfl (EOp_call1 rfl rfl (by decide) rfl ca_114 (c_spec_l1Below l i1 h1 (Y.c.vals.length : Int) _ hb hi1 (by omega)) (by refine cons_eq ?_ (cons_eq ?_ (rfl)) <;> first | (refine lend_whole rfl ?_; first | assumption | exact ints_len _ | exact pairs_len _ | exact quads_len _ | exact quints_len _ | exact bools_len _ | (simp [ints_len, bools_len, pairs_len, quads_len, quints_len, part_len, *]; done) | (simp [ints_len, bools_len, pairs_len, quads_len, quints_len]; omega) | rfl) | (refine agg_eq ?_; repeat' (first | (refine lendC_whole rfl ?_; first | assumption | exact ints_len _ | exact pairs_len _ | exact quads_len _ | exact quints_len _ | exact bools_len _ | (simp [ints_len, bools_len, pairs_len, quads_len, quints_len, part_len, *]; done) | (simp [ints_len, bools_len, pairs_len, quads_len, quints_len]; omega) | rfl) | refine cons_eq ?_ ?_ | rfl)) | rfl | simp [E.lend, E.lendC, E.ev, E.cv, E.get, E.fill', E.fill, AV.sh, AC.sh, Res.sh, ints_len, *]) ?_)
     rintro r S ⟨x2, i2, h2, ⟨rfl, rfl⟩, hi2, hx2⟩
     obtain ⟨kk, rfl⟩ : ∃ kk : Nat, x2 = (kk : Int) := ⟨x2.toNat, by omega⟩
     have hk1 : kk < Y.c.vals.length := by have := hx2.2.1 (by omega); omega
     obtain ⟨y, hy⟩ := at_lt (l := Y.c.vals) hk1
     refine u_pure 7 rfl rfl rfl (L_index rfl rfl (by first | exact i_ro sl_24 ty_3 | exact i_sl sl_24 ty_3)) ?_
     refine u_any 8 [10] ⟨?_, ?_, trivial⟩
     ·refine u_op 8 rfl rfl (EOp_light rfl (by decide) (L_load rfl (by first | exact d_bp ty_3 | exact ld_rp ty_3 rfl | exact d_ep ty_3)) ?_)
      refine u_any 10 [] ⟨?_, trivial⟩
      refine u_op 10 rfl rfl (EOp_call1 rfl rfl (by decide) rfl ca_114 (c_spec_l1Below l i2 h2 3 _ hb hi2 (by decide)) (by refine cons_eq ?_ (cons_eq ?_ (rfl)) <;> first | (refine lend_whole rfl ?_; first | assumption | exact ints_len _ | exact pairs_len _ | exact quads_len _ | exact quints_len _ | exact bools_len _ | (simp [ints_len, bools_len, pairs_len, quads_len, quints_len, part_len, *]; done) | (simp [ints_len, bools_len, pairs_len, quads_len, quints_len]; omega) | rfl) | (refine agg_eq ?_; repeat' (first | (refine lendC_whole rfl ?_; first | assumption | exact ints_len _ | exact pairs_len _ | exact quads_len _ | exact quints_len _ | exact bools_len _ | (simp [ints_len, bools_len, pairs_len, quads_len, quints_len, part_len, *]; done) | (simp [ints_len, bools_len, pairs_len, quads_len, quints_len]; omega) | rfl) | refine cons_eq ?_ ?_ | rfl)) | rfl | simp [E.lend, E.lendC, E.ev, E.cv, E.get, E.fill', E.fill, AV.sh, AC.sh, Res.sh, ints_len, *]) ?_)
      rintro r S ⟨x3, i3, h3, ⟨rfl, rfl⟩, hi3, hx3⟩
      refine u_pure 11 rfl rfl rfl (by first | exact l_add rfl rfl rfl | exact L_bin rfl rfl rfl rfl) ?_
      refine u_pure 12 rfl rfl rfl (by first | exact l_sub rfl rfl rfl | exact L_bin rfl rfl rfl rfl) ?_
      refine u_pure 13 rfl rfl rfl (L_assign rfl) ?_
      refine u_done ?_
      refine E_ret ?_
      first
       | exact ⟨_, [], rfl, rfl, _, i3, h3, ⟨rfl, rfl⟩, hi3⟩
       | exact ⟨_, [], rfl, rfl, _, i4, h4, ⟨rfl, rfl⟩, hi4⟩
     ·refine u_op 10 rfl rfl (EOp_call1 rfl rfl (by decide) rfl ca_114 (c_spec_l1Below l i2 h2 3 _ hb hi2 (by decide)) (by refine cons_eq ?_ (cons_eq ?_ (rfl)) <;> first | (refine lend_whole rfl ?_; first | assumption | exact ints_len _ | exact pairs_len _ | exact quads_len _ | exact quints_len _ | exact bools_len _ | (simp [ints_len, bools_len, pairs_len, quads_len, quints_len, part_len, *]; done) | (simp [ints_len, bools_len, pairs_len, quads_len, quints_len]; omega) | rfl) | (refine agg_eq ?_; repeat' (first | (refine lendC_whole rfl ?_; first | assumption | exact ints_len _ | exact pairs_len _ | exact quads_len _ | exact quints_len _ | exact bools_len _ | (simp [ints_len, bools_len, pairs_len, quads_len, quints_len, part_len, *]; done) | (simp [ints_len, bools_len, pairs_len, quads_len, quints_len]; omega) | rfl) | refine cons_eq ?_ ?_ | rfl)) | rfl | simp [E.lend, E.lendC, E.ev, E.cv, E.get, E.fill', E.fill, AV.sh, AC.sh, Res.sh, ints_len, *]) ?_)
      rintro r S ⟨x3, i3, h3, ⟨rfl, rfl⟩, hi3, hx3⟩
      refine u_any 8 [] ⟨?_, trivial⟩
      refine u_op 8 rfl rfl (EOp_light rfl (by decide) (L_load rfl (by first | exact d_bp ty_3 | exact ld_rp ty_3 rfl | exact d_ep ty_3)) ?_)
      refine u_pure 11 rfl rfl rfl (by first | exact l_add rfl rfl rfl | exact L_bin rfl rfl rfl rfl) ?_
      refine u_pure 12 rfl rfl rfl (by first | exact l_sub rfl rfl rfl | exact L_bin rfl rfl rfl rfl) ?_
      refine u_pure 13 rfl rfl rfl (L_assign rfl) ?_
      refine u_done ?_
      refine E_ret ?_
      first
       | exact ⟨_, [], rfl, rfl, _, i3, h3, ⟨rfl, rfl⟩, hi3⟩
       | exact ⟨_, [], rfl, rfl, _, i4, h4, ⟨rfl, rfl⟩, hi4⟩
    ·refine u_op 6 rfl rfl (EOp_call1 rfl rfl (by decide) rfl ca_114 (c_spec_l1Below l i1 h1 (Y.c.vals.length : Int) _ hb hi1 (by omega)) (by refine cons_eq ?_ (cons_eq ?_ (rfl)) <;> first | (refine lend_whole rfl ?_; first | assumption | exact ints_len _ | exact pairs_len _ | exact quads_len _ | exact quints_len _ | exact bools_len _ | (simp [ints_len, bools_len, pairs_len, quads_len, quints_len, part_len, *]; done) | (simp [ints_len, bools_len, pairs_len, quads_len, quints_len]; omega) | rfl) | (refine agg_eq ?_; repeat' (first | (refine lendC_whole rfl ?_; first | assumption | exact ints_len _ | exact pairs_len _ | exact quads_len _ | exact quints_len _ | exact bools_len _ | (simp [ints_len, bools_len, pairs_len, quads_len, quints_len, part_len, *]; done) | (simp [ints_len, bools_len, pairs_len, quads_len, quints_len]; omega) | rfl) | refine cons_eq ?_ ?_ | rfl)) | rfl | simp [E.lend, E.lendC, E.ev, E.cv, E.get, E.fill', E.fill, AV.sh, AC.sh, Res.sh, ints_len, *]) ?_)
     rintro r S ⟨x2, i2, h2, ⟨rfl, rfl⟩, hi2, hx2⟩
     obtain ⟨kk, rfl⟩ : ∃ kk : Nat, x2 = (kk : Int) := ⟨x2.toNat, by omega⟩
     have hk1 : kk < Y.c.vals.length := by have := hx2.2.1 (by omega); omega
     obtain ⟨y, hy⟩ := at_lt (l := Y.c.vals) hk1
     refine u_any 1 [10] ⟨?_, ?_, trivial⟩
     ·refine u_op 1 rfl rfl (EOp_light rfl (by decide) (L_load rfl (by first | exact d_bp ty_24 | exact ld_rp ty_24 rfl | exact d_ep ty_24)) ?_)
      refine u_pure 7 rfl rfl rfl (L_index rfl rfl (by first | exact i_ro sl_24 ty_3 | exact i_sl sl_24 ty_3)) ?_
      refine u_any 8 [10] ⟨?_, ?_, trivial⟩
      ·refine u_op 8 rfl rfl (EOp_light rfl (by decide) (L_load rfl (by first | exact d_bp ty_3 | exact ld_rp ty_3 rfl | exact d_ep ty_3)) ?_)
       refine u_any 10 [] ⟨?_, trivial⟩
       refine u_op 10 rfl rfl (EOp_call1 rfl rfl (by decide) rfl ca_114 (c_spec_l1Below l i2 h2 3 _ hb hi2 (by decide)) (by refine cons_eq ?_ (cons_eq ?_ (rfl)) <;> first | (refine lend_whole rfl ?_; first | assumption | exact ints_len _ | exact pairs_len _ | exact quads_len _ | exact quints_len _ | exact bools_len _ | (simp [ints_len, bools_len, pairs_len, quads_len, quints_len, part_len, *]; done) | (simp [ints_len, bools_len, pairs_len, quads_len, quints_len]; omega) | rfl) | (refine agg_eq ?_; repeat' (first | (refine lendC_whole rfl ?_; first | assumption | exact ints_len _ | exact pairs_len _ | exact quads_len _ | exact quints_len _ | exact bools_len _ | (simp [ints_len, bools_len, pairs_len, quads_len, quints_len, part_len, *]; done) | (simp [ints_len, bools_len, pairs_len, quads_len, quints_len]; omega) | rfl) | refine cons_eq ?_ ?_ | rfl)) | rfl | simp [E.lend, E.lendC, E.ev, E.cv, E.get, E.fill', E.fill, AV.sh, AC.sh, Res.sh, ints_len, *]) ?_)
       rintro r S ⟨x3, i3, h3, ⟨rfl, rfl⟩, hi3, hx3⟩
       refine u_pure 11 rfl rfl rfl (by first | exact l_add rfl rfl rfl | exact L_bin rfl rfl rfl rfl) ?_
       refine u_pure 12 rfl rfl rfl (by first | exact l_sub rfl rfl rfl | exact L_bin rfl rfl rfl rfl) ?_
       refine u_pure 13 rfl rfl rfl (L_assign rfl) ?_
       refine u_done ?_
       refine E_ret ?_
       first
        | exact ⟨_, [], rfl, rfl, _, i3, h3, ⟨rfl, rfl⟩, hi3⟩
        | exact ⟨_, [], rfl, rfl, _, i4, h4, ⟨rfl, rfl⟩, hi4⟩
      ·refine u_op 10 rfl rfl (EOp_call1 rfl rfl (by decide) rfl ca_114 (c_spec_l1Below l i2 h2 3 _ hb hi2 (by decide)) (by refine cons_eq ?_ (cons_eq ?_ (rfl)) <;> first | (refine lend_whole rfl ?_; first | assumption | exact ints_len _ | exact pairs_len _ | exact quads_len _ | exact quints_len _ | exact bools_len _ | (simp [ints_len, bools_len, pairs_len, quads_len, quints_len, part_len, *]; done) | (simp [ints_len, bools_len, pairs_len, quads_len, quints_len]; omega) | rfl) | (refine agg_eq ?_; repeat' (first | (refine lendC_whole rfl ?_; first | assumption | exact ints_len _ | exact pairs_len _ | exact quads_len _ | exact quints_len _ | exact bools_len _ | (simp [ints_len, bools_len, pairs_len, quads_len, quints_len, part_len, *]; done) | (simp [ints_len, bools_len, pairs_len, quads_len, quints_len]; omega) | rfl) | refine cons_eq ?_ ?_ | rfl)) | rfl | simp [E.lend, E.lendC, E.ev, E.cv, E.get, E.fill', E.fill, AV.sh, AC.sh, Res.sh, ints_len, *]) ?_)
       rintro r S ⟨x3, i3, h3, ⟨rfl, rfl⟩, hi3, hx3⟩
       refine u_any 8 [] ⟨?_, trivial⟩
       refine u_op 8 rfl rfl (EOp_light rfl (by decide) (L_load rfl (by first | exact d_bp ty_3 | exact ld_rp ty_3 rfl | exact d_ep ty_3)) ?_)
       refine u_pure 11 rfl rfl rfl (by first | exact l_add rfl rfl rfl | exact L_bin rfl rfl rfl rfl) ?_
       refine u_pure 12 rfl rfl rfl (by first | exact l_sub rfl rfl rfl | exact L_bin rfl rfl rfl rfl) ?_
       refine u_pure 13 rfl rfl rfl (L_assign rfl) ?_
       refine u_done ?_
       refine E_ret ?_
       first
        | exact ⟨_, [], rfl, rfl, _, i3, h3, ⟨rfl, rfl⟩, hi3⟩
        | exact ⟨_, [], rfl, rfl, _, i4, h4, ⟨rfl, rfl⟩, hi4⟩
     ·refine u_op 10 rfl rfl (EOp_call1 rfl rfl (by decide) rfl ca_114 (c_spec_l1Below l i2 h2 3 _ hb hi2 (by decide)) (by refine cons_eq ?_ (cons_eq ?_ (rfl)) <;> first | (refine lend_whole rfl ?_; first | assumption | exact ints_len _ | exact pairs_len _ | exact quads_len _ | exact quints_len _ | exact bools_len _ | (simp [ints_len, bools_len, pairs_len, quads_len, quints_len, part_len, *]; done) | (simp [ints_len, bools_len, pairs_len, quads_len, quints_len]; omega) | rfl) | (refine agg_eq ?_; repeat' (first | (refine lendC_whole rfl ?_; first | assumption | exact ints_len _ | exact pairs_len _ | exact quads_len _ | exact quints_len _ | exact bools_len _ | (simp [ints_len, bools_len, pairs_len, quads_len, quints_len, part_len, *]; done) | (simp [ints_len, bools_len, pairs_len, quads_len, quints_len]; omega) | rfl) | refine cons_eq ?_ ?_ | rfl)) | rfl | simp [E.lend, E.lendC, E.ev, E.cv, E.get, E.fill', E.fill, AV.sh, AC.sh, Res.sh, ints_len, *]) ?_)
      rintro r S ⟨x3, i3, h3, ⟨rfl, rfl⟩, hi3, hx3⟩
      refine u_any 1 [] ⟨?_, trivial⟩
      refine u_op 1 rfl rfl (EOp_light rfl (by decide) (L_load rfl (by first | exact d_bp ty_24 | exact ld_rp ty_24 rfl | exact d_ep ty_24)) ?_)
      refine u_pure 7 rfl rfl rfl (L_index rfl rfl (by first | exact i_ro sl_24 ty_3 | exact i_sl sl_24 ty_3)) ?_
      refine u_any 8 [] ⟨?_, trivial⟩
      refine u_op 8 rfl rfl (EOp_light rfl (by decide) (L_load rfl (by first | exact d_bp ty_3 | exact ld_rp ty_3 rfl | exact d_ep ty_3)) ?_)
      refine u_pure 11 rfl rfl rfl (by first | exact l_add rfl rfl rfl | exact L_bin rfl rfl rfl rfl) ?_
      refine u_pure 12 rfl rfl rfl (by first | exact l_sub rfl rfl rfl | exact L_bin rfl rfl rfl rfl) ?_
      refine u_pure 13 rfl rfl rfl (L_assign rfl) ?_
      refine u_done ?_
      refine E_ret ?_
      first
       | exact ⟨_, [], rfl, rfl, _, i3, h3, ⟨rfl, rfl⟩, hi3⟩
       | exact ⟨_, [], rfl, rfl, _, i4, h4, ⟨rfl, rfl⟩, hi4⟩
  ·refine E_skip ?_
   refine E_seq ?_
   refine e_tidy_A134_3 [0, 1, 3, 4, 13] ?_
   refine E_region' (L := [0, 1, 2, 3]) rfl ?_
   refine xmv ?_
   refine EOps_go rfl rfl (Heavy.op (H_bslice rfl rfl (by decide) sl_24 ty_3 za_3 ⟨rfl, by decide⟩ (by decide) rfl rfl rfl rfl ?_))
   refine EOps_go rfl rfl (EOp_call1 rfl rfl (by decide) rfl ca_159 (c_spec_l1PickInt l _ _ _ 12 [0, 3, -2, -1000, 1000, 50] 6 hb (by assumption) (by decide) rfl rfl) (by refine cons_eq ?_ (cons_eq ?_ (rfl)) <;> first | (refine lend_whole rfl ?_; first | assumption | exact ints_len _ | exact pairs_len _ | exact quads_len _ | exact quints_len _ | exact bools_len _ | (simp [ints_len, bools_len, pairs_len, quads_len, quints_len, part_len, *]; done) | (simp [ints_len, bools_len, pairs_len, quads_len, quints_len]; omega) | rfl) | (refine agg_eq ?_; repeat' (first | (refine lendC_whole rfl ?_; first | assumption | exact ints_len _ | exact pairs_len _ | exact quads_len _ | exact quints_len _ | exact bools_len _ | (simp [ints_len, bools_len, pairs_len, quads_len, quints_len, part_len, *]; done) | (simp [ints_len, bools_len, pairs_len, quads_len, quints_len]; omega) | rfl) | refine cons_eq ?_ ?_ | rfl)) | rfl | simp [E.lend, E.lendC, E.ev, E.cv, E.get, E.fill', E.fill, AV.sh, AC.sh, Res.sh, ints_len, *]) ?_)
   rintro r S ⟨x4, i4, h4, ⟨rfl, rfl⟩, hi4, hx4⟩
   refine xas ?_
   refine EOps_nil ?_
   refine E_ret ?_
   first
    | exact ⟨_, [], rfl, rfl, _, i3, h3, ⟨rfl, rfl⟩, hi3⟩
    | exact ⟨_, [], rfl, rfl, _, i4, h4, ⟨rfl, rfl⟩, hi4⟩
 ·refine x_skip rfl rfl rfl ?_
  refine x_skip rfl rfl rfl ?_
  refine x_skip rfl rfl rfl ?_
  refine x_pure rfl rfl rfl (L_pick rfl rfl) ?_
  refine EOps_nil ?_
  refine E_cond rfl (fun hc13 => ?_) (fun hc13 => ?_)
  ·exact Bool.noConfusion (hc13 : false = true)
  ·refine E_skip ?_
   refine E_seq ?_
   refine e_tidy_A134_3 [0, 1, 3, 4, 13] ?_
   refine E_region' (L := [0, 1, 2, 3]) rfl ?_
   refine xmv ?_
   refine EOps_go rfl rfl (Heavy.op (H_bslice rfl rfl (by decide) sl_24 ty_3 za_3 ⟨rfl, by decide⟩ (by decide) rfl rfl rfl rfl ?_))
   refine EOps_go rfl rfl (EOp_call1 rfl rfl (by decide) rfl ca_159 (c_spec_l1PickInt l _ _ _ 12 [0, 3, -2, -1000, 1000, 50] 6 hb (by assumption) (by decide) rfl rfl) (by refine cons_eq ?_ (cons_eq ?_ (rfl)) <;> first | (refine lend_whole rfl ?_; first | assumption | exact ints_len _ | exact pairs_len _ | exact quads_len _ | exact quints_len _ | exact bools_len _ | (simp [ints_len, bools_len, pairs_len, quads_len, quints_len, part_len, *]; done) | (simp [ints_len, bools_len, pairs_len, quads_len, quints_len]; omega) | rfl) | (refine agg_eq ?_; repeat' (first | (refine lendC_whole rfl ?_; first | assumption | exact ints_len _ | exact pairs_len _ | exact quads_len _ | exact quints_len _ | exact bools_len _ | (simp [ints_len, bools_len, pairs_len, quads_len, quints_len, part_len, *]; done) | (simp [ints_len, bools_len, pairs_len, quads_len, quints_len]; omega) | rfl) | refine cons_eq ?_ ?_ | rfl)) | rfl | simp [E.lend, E.lendC, E.ev, E.cv, E.get, E.fill', E.fill, AV.sh, AC.sh, Res.sh, ints_len, *]) ?_)
   rintro r S ⟨x4, i4, h4, ⟨rfl, rfl⟩, hi4, hx4⟩
   refine xas ?_
   refine EOps_nil ?_
   refine E_ret ?_
   first
    | exact ⟨_, [], rfl, rfl, _, i3, h3, ⟨rfl, rfl⟩, hi3⟩
    | exact ⟨_, [], rfl, rfl, _, i4, h4, ⟨rfl, rfl⟩, hi4⟩

set_option maxRecDepth 20000 in
set_option maxHeartbeats 4000000 in
theorem c_spec_l12Values_qu (l : List Int) (i h : Int) (Y : Mp) (hb : byL l) (hi : curOk l i) (hX : Y.c.vals.length ≤ 1048576) : EFn Try.prog 191 [.c (.bp 0 0), .agg (crkO 5 Y.c)] [.box (curC l i h), .box [.sc (.slice none 0 0), .sc (.slice none 0 0), .sc (.slice none 0 0), .sc (.slice none 0 0), .sc (.int .i64 0)], .box [.sc (.slice none 0 0), .sc (.slice none 0 0), .sc (.slice none 0 0), .sc (.slice none 0 0), .sc (.int .i64 0)], .box [.sc (.slice none 0 0), .sc (.slice none 0 0), .sc (.slice none 0 0), .sc (.slice none 0 0), .sc (.int .i64 0)], .box [.sc (.slice none 0 0), .sc (.slice none 0 0), .sc (.slice none 0 0), .sc (.slice none 0 0), .sc (.int .i64 0)], .row 3 1 (ints Y.c.vals), .row 3 1 (ints Y.c.rows), .row 129 2 (pairs Y.c.piv), .row 3 1 (ints Y.tail), .box (mpO 5 Y)] (fun r S => ∃ (xs : List Int) (i' h' : Int), (r = .c (.sl 10 0 xs.length xs.length) ∧ S = [.box (curC l i' h'), .box [.sc (.slice none 0 0), .sc (.slice none 0 0), .sc (.slice none 0 0), .sc (.slice none 0 0), .sc (.int .i64 0)], .box [.sc (.slice none 0 0), .sc (.slice none 0 0), .sc (.slice none 0 0), .sc (.slice none 0 0), .sc (.int .i64 0)], .box [.sc (.slice none 0 0), .sc (.slice none 0 0), .sc (.slice none 0 0), .sc (.slice none 0 0), .sc (.int .i64 0)], .box [.sc (.slice none 0 0), .sc (.slice none 0 0), .sc (.slice none 0 0), .sc (.slice none 0 0), .sc (.int .i64 0)], .row 3 1 (ints Y.c.vals), .row 3 1 (ints Y.c.rows), .row 129 2 (pairs Y.c.piv), .row 3 1 (ints Y.tail), .box (mpO 5 Y), .row 3 1 (ints xs)]) ∧ curOk l i' ∧ xs.length ≤ 4) := by
 refine E_fn Try.func191 rfl (Nat.le_of_ble_eq_true rfl) ?_
 refine E_seq ?_
 refine E_region' (L := [0, 1]) rfl ?_
 refine x_box rfl rfl rfl rfl rfl ?_
 refine xas ?_
 refine EOps_nil ?_
 refine E_seq ?_
 refine E_region' (L := [0, 1]) rfl ?_
 refine EOps_go rfl rfl (Heavy.op (H_bslice rfl rfl (by decide) sl_24 ty_3 za_3 ⟨rfl, by decide⟩ (by decide) rfl rfl rfl rfl ?_))
 refine xas ?_
 refine EOps_nil ?_
 refine E_seq ?_
 refine E_seq ?_
 refine e_tidy_A134_3 [0, 1, 3, 4, 5] ?_
 refine E_region' (L := [0, 1, 2]) rfl ?_
 refine xmv ?_
 refine EOps_go rfl rfl (EOp_call1 rfl rfl (by decide) rfl ca_114 (c_spec_l1Below l i h 5 _ hb hi (by decide)) (by refine cons_eq ?_ (cons_eq ?_ (rfl)) <;> first | (refine lend_whole rfl ?_; first | assumption | exact ints_len _ | exact pairs_len _ | exact quads_len _ | exact quints_len _ | exact bools_len _ | (simp [ints_len, bools_len, pairs_len, quads_len, quints_len, part_len, *]; done) | (simp [ints_len, bools_len, pairs_len, quads_len, quints_len]; omega) | rfl) | (refine agg_eq ?_; repeat' (first | (refine lendC_whole rfl ?_; first | assumption | exact ints_len _ | exact pairs_len _ | exact quads_len _ | exact quints_len _ | exact bools_len _ | (simp [ints_len, bools_len, pairs_len, quads_len, quints_len, part_len, *]; done) | (simp [ints_len, bools_len, pairs_len, quads_len, quints_len]; omega) | rfl) | refine cons_eq ?_ ?_ | rfl)) | rfl | simp [E.lend, E.lendC, E.ev, E.cv, E.get, E.fill', E.fill, AV.sh, AC.sh, Res.sh, ints_len, *]) ?_)
 rintro r S ⟨x2, i2, h2, ⟨rfl, rfl⟩, hi2, hx2⟩
 obtain ⟨k, rfl⟩ : ∃ k : Nat, x2 = (k : Int) := ⟨x2.toNat, by omega⟩
 have hk1 := hx2.2.1 (by omega)
 refine xas ?_
 refine EOps_nil ?_
 refine E_block ?_
 refine e_for_A134_4 (α := Nat × List Int × Int × Int) [0, 1, 3, 4] (fun (n, xs, i3, h3) => [(6, .c (.sc (.int .i64 ((n : Int))))), (5, .c (.sl 11 0 xs.length xs.length)), (7, .any)]) (fun (n, xs, i3, h3) => [.box (curC l i3 h3), .box [.sc (.slice none 0 0), .sc (.slice none 0 0), .sc (.slice none 0 0), .sc (.slice none 0 0), .sc (.int .i64 0)], .box [.sc (.slice none 0 0), .sc (.slice none 0 0), .sc (.slice none 0 0), .sc (.slice none 0 0), .sc (.int .i64 0)], .box [.sc (.slice none 0 0), .sc (.slice none 0 0), .sc (.slice none 0 0), .sc (.slice none 0 0), .sc (.int .i64 0)], .box [.sc (.slice none 0 0), .sc (.slice none 0 0), .sc (.slice none 0 0), .sc (.slice none 0 0), .sc (.int .i64 0)], .row 3 1 (ints Y.c.vals), .row 3 1 (ints Y.c.rows), .row 129 2 (pairs Y.c.piv), .row 3 1 (ints Y.tail), .box (mpO 5 Y), .box (crkO 5 Y.c), .row 3 1 (ints xs)]) (fun (n, xs, i3, h3) => n + xs.length ≤ 4 ∧ curOk l i3) (fun (n, xs, i3, h3) => n) ((k, [], i2, h2)) ?_ (rfl) ⟨.inr rfl, .inr rfl, .inl rfl, trivial⟩ ?_
 ·exact ⟨by simp; omega, hi2⟩
 rintro ⟨n, xs, i3, h3⟩ ⟨hnx, hi3⟩
 dsimp only at *
 refine E_seq ?_
 refine E_seq ?_
 refine E_region' (L := [0, 1]) rfl ?_
 refine xmv ?_
 refine x_pure rfl rfl rfl (L_bin rfl rfl rfl rfl) ?_
 refine EOps_nil ?_
 refine E_cond rfl (fun hc12 => ?_) (fun hc12 => ?_)
 ·have hn1 : 0 < n := by simp at hc12; omega
  refine E_skip ?_
  refine E_seq ?_
  refine E_block ?_
  refine E_seq ?_
  refine e_tidy_A134_3 [0, 1, 3, 4, 5, 6, 7, 12] ?_
  refine E_region' (L := [0, 1, 2, 3]) rfl ?_
  refine xmv ?_
  refine x_light rfl rfl rfl (L_load rfl (by first | exact d_bp ty_27 | exact ld_rp ty_27 rfl | exact d_ep ty_27)) ?_
  refine EOps_go rfl rfl (EOp_call1 rfl rfl (by decide) rfl ca_76 (c_spec_l4Value_qw l i3 h3 Y xs hb hi3 hX) (by refine cons_eq ?_ (cons_eq ?_ (rfl)) <;> first | (refine lend_whole rfl ?_; first | assumption | exact ints_len _ | exact pairs_len _ | exact quads_len _ | exact quints_len _ | exact bools_len _ | (simp [ints_len, bools_len, pairs_len, quads_len, quints_len, part_len, *]; done) | (simp [ints_len, bools_len, pairs_len, quads_len, quints_len]; omega) | rfl) | (refine agg_eq ?_; repeat' (first | (refine lendC_whole rfl ?_; first | assumption | exact ints_len _ | exact pairs_len _ | exact quads_len _ | exact quints_len _ | exact bools_len _ | (simp [ints_len, bools_len, pairs_len, quads_len, quints_len, part_len, *]; done) | (simp [ints_len, bools_len, pairs_len, quads_len, quints_len]; omega) | rfl) | refine cons_eq ?_ ?_ | rfl)) | rfl | simp [E.lend, E.lendC, E.ev, E.cv, E.get, E.fill', E.fill, AV.sh, AC.sh, Res.sh, ints_len, *]) ?_)
  rintro r S ⟨zz, i4, h4, ⟨rfl, rfl⟩, hi4⟩
  refine xas ?_
  refine EOps_nil ?_
  refine E_region' (L := [0, 1, 2, 3, 4]) rfl ?_
  refine xmv ?_
  refine xmv ?_
  refine EOps_go rfl rfl (Heavy.op (H_bslice_ro rfl rfl (by decide) sl_24 ty_3 za_3 ⟨rfl, by decide⟩ (by decide) rfl rfl rfl rfl ?_))
  refine EOps_go rfl rfl (EOp_append (news := ints [zz]) rfl rfl (by decide) sl_24 ty_3 by_3 za_3 ⟨rfl, by decide⟩ rfl (by first | rfl | assumption) (by first | assumption | exact ints_len _ | exact pairs_len _ | exact quads_len _ | exact quints_len _ | exact bools_len _ | (simp [ints_len, bools_len, pairs_len, quads_len, quints_len, part_len, *]; done) | (simp [ints_len, bools_len, pairs_len, quads_len, quints_len]; omega) | rfl) (by first | (refine lend_whole rfl ?_; first | assumption | exact ints_len _ | exact pairs_len _ | exact quads_len _ | exact quints_len _ | exact bools_len _ | (simp [ints_len, bools_len, pairs_len, quads_len, quints_len, part_len, *]; done) | (simp [ints_len, bools_len, pairs_len, quads_len, quints_len]; omega) | rfl) | rfl | simp [E.lend, lendC]) (by first | exact ints_row _ | exact pairs_row _ | exact quads_row _ | exact quints_row _ | exact bools_row _ | (intro r hr; simp [chunk] at hr; subst hr; exact ⟨rfl, rfl⟩)) (by simp [ints_len, bools_len, pairs_len, quads_len, quints_len, chunk]; omega) ?_)
  refine xas ?_
  refine EOps_nil ?_
  refine E_region' (L := [0, 1, 2]) rfl ?_
  refine xmv ?_
  refine x_pure rfl rfl rfl (by first | exact l_sub rfl rfl rfl | exact L_bin rfl rfl rfl rfl) ?_
  refine xas ?_
  refine EOps_nil ?_
  refine ⟨(n - 1, xs ++ [zz], i4, h4), ?_, ?_, (by dsimp only; rw [← ints_app]; rfl), ⟨.inr (int_eq (by first | omega | (dsimp only; omega))), .inr ((by dsimp only; rw [← ints_lenApp]; rfl)), .inl rfl, trivial⟩, ⟨.inr rfl, .inr rfl, .inr rfl, .inr rfl, trivial⟩⟩
  ·dsimp only; omega
  ·exact ⟨by simp; omega, hi4⟩
 ·refine E_exit ?_
  refine E_seq ?_
  refine E_region' (L := [0, 1]) rfl ?_
  refine xmv ?_
  refine xas ?_
  refine EOps_nil ?_
  refine E_ret ?_
  exact ⟨_, [11], rfl, rfl, xs, i3, h3, ⟨rfl, rfl⟩, hi3, by omega⟩

set_option maxRecDepth 20000 in
set_option maxHeartbeats 4000000 in
theorem c_spec_l12Map_qm (l : List Int) (i h : Int) (hb : byL l) (hi : curOk l i) : EFn Try.prog 158 [.c (.bp 0 0)] [.box (curC l i h), .box [.sc (.slice none 0 0), .sc (.slice none 0 0), .sc (.slice none 0 0), .sc (.slice none 0 0), .sc (.int .i64 0)], .box [.sc (.slice none 0 0), .sc (.slice none 0 0), .sc (.slice none 0 0), .sc (.slice none 0 0), .sc (.int .i64 0)], .box [.sc (.slice none 0 0), .sc (.slice none 0 0), .sc (.slice none 0 0), .sc (.slice none 0 0), .sc (.int .i64 0)]] (fun r S => ∃ (Y : Mp) (hs : List Int) (i' h' : Int), (r = .tup [(true, mpO 4 Y), (false, [.sl 8 0 hs.length hs.length])] ∧ S = [.box (curC l i' h'), .box [.sc (.slice none 0 0), .sc (.slice none 0 0), .sc (.slice none 0 0), .sc (.slice none 0 0), .sc (.int .i64 0)], .box [.sc (.slice none 0 0), .sc (.slice none 0 0), .sc (.slice none 0 0), .sc (.slice none 0 0), .sc (.int .i64 0)], .box [.sc (.slice none 0 0), .sc (.slice none 0 0), .sc (.slice none 0 0), .sc (.slice none 0 0), .sc (.int .i64 0)], .row 3 1 (ints Y.c.vals), .row 3 1 (ints Y.c.rows), .row 129 2 (pairs Y.c.piv), .row 3 1 (ints Y.tail), .row 3 1 (ints hs)]) ∧ curOk l i' ∧ hs.length ≤ 4 ∧ Y.c.vals.length ≤ 12 ∧ Y.c.rows.length ≤ 12 ∧ Y.c.piv.length ≤ 4 ∧ Y.tail.length ≤ 12) := by
 refine E_fn Try.func158 rfl (Nat.le_of_ble_eq_true rfl) ?_
 refine E_G (n := 4) rfl ?_
 refine G_seq ?_
 refine G_region' (L := [0, 1]) rfl ?_
 refine x_alloc rfl rfl rfl rfl za_29 ?_
 refine xas ?_
 refine EOps_nil ?_
 refine G_seq ?_
 refine g_tidy_A134_2 [0, 2, 3] ?_
 refine G_region' (L := [0, 1, 2]) rfl ?_
 refine xmv ?_
 refine EOps_go rfl rfl (EOp_call1 rfl rfl (by decide) rfl ca_120 (c_spec_l2Values_qv l i h 12 hb hi (by decide)) (by refine cons_eq ?_ (cons_eq ?_ (rfl)) <;> first | (refine lend_whole rfl ?_; first | assumption | exact ints_len _ | exact pairs_len _ | exact quads_len _ | exact quints_len _ | exact bools_len _ | (simp [ints_len, bools_len, pairs_len, quads_len, quints_len, part_len, *]; done) | (simp [ints_len, bools_len, pairs_len, quads_len, quints_len]; omega) | rfl) | (refine agg_eq ?_; repeat' (first | (refine lendC_whole rfl ?_; first | assumption | exact ints_len _ | exact pairs_len _ | exact quads_len _ | exact quints_len _ | exact bools_len _ | (simp [ints_len, bools_len, pairs_len, quads_len, quints_len, part_len, *]; done) | (simp [ints_len, bools_len, pairs_len, quads_len, quints_len]; omega) | rfl) | refine cons_eq ?_ ?_ | rfl)) | rfl | simp [E.lend, E.lendC, E.ev, E.cv, E.get, E.fill', E.fill, AV.sh, AC.sh, Res.sh, ints_len, *]) ?_)
 rintro r S ⟨xs, i1, h1, ⟨rfl, rfl⟩, hi1, hxs⟩
 refine xas ?_
 refine EOps_nil ?_
 refine G_seq ?_
 refine g_tidy_A134_2 [0, 2, 3, 4] ?_
 refine G_region' (L := [0, 1, 2, 3, 4, 5, 6, 7]) rfl ?_
 refine xmv ?_
 refine xmv ?_
 refine xmv ?_
 refine x_pure rfl rfl rfl (l_len rfl sl_24) ?_
 refine EOps_go rfl rfl (EOp_call1 rfl rfl (by decide) rfl ca_121 (c_spec_l12Tail_qt l i1 h1 xs xs.length hb hi1 (by omega)) (by refine cons_eq ?_ (cons_eq ?_ (rfl)) <;> first | (refine lend_whole rfl ?_; first | assumption | exact ints_len _ | exact pairs_len _ | exact quads_len _ | exact quints_len _ | exact bools_len _ | (simp [ints_len, bools_len, pairs_len, quads_len, quints_len, part_len, *]; done) | (simp [ints_len, bools_len, pairs_len, quads_len, quints_len]; omega) | rfl) | (refine agg_eq ?_; repeat' (first | (refine lendC_whole rfl ?_; first | assumption | exact ints_len _ | exact pairs_len _ | exact quads_len _ | exact quints_len _ | exact bools_len _ | (simp [ints_len, bools_len, pairs_len, quads_len, quints_len, part_len, *]; done) | (simp [ints_len, bools_len, pairs_len, quads_len, quints_len]; omega) | rfl) | refine cons_eq ?_ ?_ | rfl)) | rfl | simp [E.lend, E.lendC, E.ev, E.cv, E.get, E.fill', E.fill, AV.sh, AC.sh, Res.sh, ints_len, *]) ?_)
 rintro r S ⟨ys, i2, h2, ⟨rfl, rfl⟩, hi2, hys⟩
 refine x_call rfl rfl rfl rfl rfl ca_42 (c_spec_NewMap xs ys (by omega)) ?_
 rintro r S ⟨rfl, rfl⟩
 have hY0 := newMp_small xs ys
 generalize newMp xs ys = Y0 at *
 refine x_alloc rfl rfl rfl rfl za_29 ?_
 refine EOps_go rfl rfl (EOp_store rfl rfl rfl (by first | exact s_bp ty_29 | exact s_ep ty_29) ?_)
 refine EOps_nil ?_
 refine G_seq ?_
 refine G_drop [0, 2, 3, 5] [4, 7, 8, 9, 10, 11] rfl rfl rfl ?_
 refine g_tidy_A134_2 [0, 2, 3, 4, 5] ?_
 refine G_region' (L := [0, 1, 2, 3, 4]) rfl ?_
 refine xmv ?_
 refine x_pure rfl rfl rfl (l_field rfl fo_29_0) ?_
 refine x_light rfl rfl rfl (L_load rfl (by first | exact d_bp ty_27 | exact ld_rp ty_27 rfl | exact d_ep ty_27)) ?_
 refine EOps_go rfl rfl (EOp_call1 rfl rfl (by decide) rfl ca_191 (c_spec_l12Values_qu l i2 h2 Y0 hb hi2 (by omega)) (by refine cons_eq ?_ (cons_eq ?_ (rfl)) <;> first | (refine lend_whole rfl ?_; first | assumption | exact ints_len _ | exact pairs_len _ | exact quads_len _ | exact quints_len _ | exact bools_len _ | (simp [ints_len, bools_len, pairs_len, quads_len, quints_len, part_len, *]; done) | (simp [ints_len, bools_len, pairs_len, quads_len, quints_len]; omega) | rfl) | (refine agg_eq ?_; repeat' (first | (refine lendC_whole rfl ?_; first | assumption | exact ints_len _ | exact pairs_len _ | exact quads_len _ | exact quints_len _ | exact bools_len _ | (simp [ints_len, bools_len, pairs_len, quads_len, quints_len, part_len, *]; done) | (simp [ints_len, bools_len, pairs_len, quads_len, quints_len]; omega) | rfl) | refine cons_eq ?_ ?_ | rfl)) | rfl | simp [E.lend, E.lendC, E.ev, E.cv, E.get, E.fill', E.fill, AV.sh, AC.sh, Res.sh, ints_len, *]) ?_)
 rintro r S ⟨hs, i3, h3, ⟨rfl, rfl⟩, hi3, hhs⟩
 refine xas ?_
 refine EOps_nil ?_
 refine G_seq ?_
 refine g_tidy_A134_2 [0, 2, 3, 4, 5, 6] ?_
 refine G_region' (L := [0, 1, 2, 3, 4, 5]) rfl ?_
 refine xmv ?_
 refine xmv ?_
 refine x_pure rfl rfl rfl (l_len rfl sl_24) ?_
 refine x_pure rfl rfl rfl (by first | exact l_add rfl rfl rfl | exact L_bin rfl rfl rfl rfl) ?_
 refine EOps_go rfl rfl (EOp_call1 rfl rfl (by decide) rfl ca_114 (c_spec_l1Below l i3 h3 ((hs.length : Int) + 1) _ hb hi3 (by omega)) (by refine cons_eq ?_ (cons_eq ?_ (rfl)) <;> first | (refine lend_whole rfl ?_; first | assumption | exact ints_len _ | exact pairs_len _ | exact quads_len _ | exact quints_len _ | exact bools_len _ | (simp [ints_len, bools_len, pairs_len, quads_len, quints_len, part_len, *]; done) | (simp [ints_len, bools_len, pairs_len, quads_len, quints_len]; omega) | rfl) | (refine agg_eq ?_; repeat' (first | (refine lendC_whole rfl ?_; first | assumption | exact ints_len _ | exact pairs_len _ | exact quads_len _ | exact quints_len _ | exact bools_len _ | (simp [ints_len, bools_len, pairs_len, quads_len, quints_len, part_len, *]; done) | (simp [ints_len, bools_len, pairs_len, quads_len, quints_len]; omega) | rfl) | refine cons_eq ?_ ?_ | rfl)) | rfl | simp [E.lend, E.lendC, E.ev, E.cv, E.get, E.fill', E.fill, AV.sh, AC.sh, Res.sh, ints_len, *]) ?_)
 rintro r S ⟨x4, i4, h4, ⟨rfl, rfl⟩, hi4, hx4⟩
 obtain ⟨k, rfl⟩ : ∃ k : Nat, x4 = (k : Int) := ⟨x4.toNat, by omega⟩
 have hk1 := hx4.2.1 (by omega)
 have hkl : k ≤ hs.length := by omega
 have hA := alM_small Y0 (cutV hs 0 k)
 have hcl : (cutV hs 0 k).length ≤ 4 := by rw [cutV, List.length_take, List.length_drop]; omega
 refine xas ?_
 refine EOps_nil ?_
 refine G_seq ?_
 refine g_tidy_A134_2 [0, 2, 3, 4, 5, 6, 7] ?_
 refine G_drawU mixed ?_
 refine u_pure 1 rfl rfl rfl (L_move rfl) ?_
 refine u_pure 2 rfl rfl rfl (L_move rfl) ?_
 refine u_pure 3 rfl rfl rfl (by first | exact L_slice_ro (l := 0) (h := k) rfl sl_24 ty_3 rfl rfl rfl (by first | omega | (simp [ints_len, pairs_len, quads_len, quints_len, bools_len]; omega) | (simp [ints_len, pairs_len, quads_len, quints_len, bools_len] at *; omega)) (by first | omega | (simp [ints_len, pairs_len, quads_len, quints_len, bools_len]; omega) | (simp [ints_len, pairs_len, quads_len, quints_len, bools_len] at *; omega)) (by first | exact fun r hr => (ints_row _ r hr).1 | exact fun r hr => (pairs_row _ r hr).1 | exact fun r hr => (quads_row _ r hr).1 | exact fun r hr => (quints_row _ r hr).1 | exact fun r hr => (bools_row _ r hr).1) | exact L_slice_sl (l := 0) (h := k) rfl sl_24 ty_3 rfl (by first | rfl | assumption) (by first | assumption | exact ints_len _ | exact pairs_len _ | exact quads_len _ | exact quints_len _ | exact bools_len _ | (simp [ints_len, bools_len, pairs_len, quads_len, quints_len, part_len, *]; done) | (simp [ints_len, bools_len, pairs_len, quads_len, quints_len]; omega) | rfl) rfl rfl (by first | omega | (simp [ints_len, pairs_len, quads_len, quints_len, bools_len]; omega) | (simp [ints_len, pairs_len, quads_len, quints_len, bools_len] at *; omega)) (by first | omega | (simp [ints_len, pairs_len, quads_len, quints_len, bools_len]; omega) | (simp [ints_len, pairs_len, quads_len, quints_len, bools_len] at *; omega))) ?_
 refine u_any 0 [9] ⟨?_, ?_, trivial⟩
 ·refine u_op 0 rfl rfl (EOp_light rfl (by decide) (L_load rfl (by first | exact d_bp ty_29 | exact ld_rp ty_29 rfl | exact d_ep ty_29)) ?_)
  refine u_any 4 [9] ⟨?_, ?_, trivial⟩
  ·refine u_call 4 rfl rfl rfl rfl rfl ca_45 (c_spec_AlignMap Y0 (cutV hs 0 k) (by omega)) ?_ (ha := by first | exact cons_eq rfl (cons_eq (lend_cutI rfl rfl) rfl) | (refine cons_eq ?_ (cons_eq (lend_cutI rfl rfl) rfl); refine agg_eq ?_; repeat' (first | (refine lendC_whole rfl ?_; first | exact ints_len _ | exact pairs_len _ | rfl) | refine cons_eq ?_ ?_ | rfl)))
   rintro r S ⟨rfl, rfl⟩
   refine u_pure 5 rfl rfl rfl (L_move rfl) ?_
   refine u_pure 6 rfl rfl rfl (L_extract rfl rfl) ?_
   refine u_pure 7 rfl rfl rfl (L_extract rfl rfl) ?_
   refine u_pure 8 rfl rfl rfl (L_extract rfl rfl) ?_
   refine u_any 9 [] ⟨?_, trivial⟩
   refine u_op 9 rfl rfl (EOp_alloc rfl rfl (by decide) za_29 ?_)
   refine u_any 10 [] ⟨?_, trivial⟩
   refine u_op 10 rfl rfl (EOp_store rfl rfl rfl (by first | exact s_bp ty_29 | exact s_ep ty_29) ?_)
   refine u_pure 11 rfl rfl rfl (L_assign rfl) ?_
   refine u_pure 12 rfl rfl rfl (L_assign rfl) ?_
   refine u_done ?_
   refine G_seq ?_
   refine G_region' (L := [0, 1, 2, 3]) rfl ?_
   refine x_light rfl rfl rfl (L_load rfl (by first | exact d_bp ty_29 | exact ld_rp ty_29 rfl | exact d_ep ty_29)) ?_
   refine xmv ?_
   refine EOps_go rfl rfl (EOp_store rfl rfl rfl (by first | exact s_bp ty_29 | exact s_ep ty_29) ?_)
   refine xas ?_
   refine EOps_nil ?_
   refine G_ret ?_
   first
    | exact ⟨_, [12, 13, 14, 15, 10], rfl, rfl, alM Y0 (cutV hs 0 k), hs, i4, h4, ⟨rfl, rfl⟩, hi4, hhs, by omega⟩
    | exact ⟨_, [11, 12, 13, 14, 10], rfl, rfl, alM Y0 (cutV hs 0 k), hs, i4, h4, ⟨rfl, rfl⟩, hi4, hhs, by omega⟩
  ·refine u_op 9 rfl rfl (EOp_alloc rfl rfl (by decide) za_29 ?_)
   refine u_any 4 [] ⟨?_, trivial⟩
   refine u_call 4 rfl rfl rfl rfl rfl ca_45 (c_spec_AlignMap Y0 (cutV hs 0 k) (by omega)) ?_ (ha := by first | exact cons_eq rfl (cons_eq (lend_cutI rfl rfl) rfl) | (refine cons_eq ?_ (cons_eq (lend_cutI rfl rfl) rfl); refine agg_eq ?_; repeat' (first | (refine lendC_whole rfl ?_; first | exact ints_len _ | exact pairs_len _ | rfl) | refine cons_eq ?_ ?_ | rfl)))
   rintro r S ⟨rfl, rfl⟩
   refine u_pure 5 rfl rfl rfl (L_move rfl) ?_
   refine u_pure 6 rfl rfl rfl (L_extract rfl rfl) ?_
   refine u_pure 7 rfl rfl rfl (L_extract rfl rfl) ?_
   refine u_pure 8 rfl rfl rfl (L_extract rfl rfl) ?_
   refine u_any 10 [] ⟨?_, trivial⟩
   refine u_op 10 rfl rfl (EOp_store rfl rfl rfl (by first | exact s_bp ty_29 | exact s_ep ty_29) ?_)
   refine u_pure 11 rfl rfl rfl (L_assign rfl) ?_
   refine u_pure 12 rfl rfl rfl (L_assign rfl) ?_
   refine u_done ?_
   refine G_seq ?_
   refine G_region' (L := [0, 1, 2, 3]) rfl ?_
   refine x_light rfl rfl rfl (L_load rfl (by first | exact d_bp ty_29 | exact ld_rp ty_29 rfl | exact d_ep ty_29)) ?_
   refine xmv ?_
   refine EOps_go rfl rfl (EOp_store rfl rfl rfl (by first | exact s_bp ty_29 | exact s_ep ty_29) ?_)
   refine xas ?_
   refine EOps_nil ?_
   refine G_ret ?_
   first
    | exact ⟨_, [12, 13, 14, 15, 10], rfl, rfl, alM Y0 (cutV hs 0 k), hs, i4, h4, ⟨rfl, rfl⟩, hi4, hhs, by omega⟩
    | exact ⟨_, [11, 12, 13, 14, 10], rfl, rfl, alM Y0 (cutV hs 0 k), hs, i4, h4, ⟨rfl, rfl⟩, hi4, hhs, by omega⟩
 ·refine u_op 9 rfl rfl (EOp_alloc rfl rfl (by decide) za_29 ?_)
  refine u_any 0 [] ⟨?_, trivial⟩
  refine u_op 0 rfl rfl (EOp_light rfl (by decide) (L_load rfl (by first | exact d_bp ty_29 | exact ld_rp ty_29 rfl | exact d_ep ty_29)) ?_)
  refine u_any 4 [] ⟨?_, trivial⟩
  refine u_call 4 rfl rfl rfl rfl rfl ca_45 (c_spec_AlignMap Y0 (cutV hs 0 k) (by omega)) ?_ (ha := by first | exact cons_eq rfl (cons_eq (lend_cutI rfl rfl) rfl) | (refine cons_eq ?_ (cons_eq (lend_cutI rfl rfl) rfl); refine agg_eq ?_; repeat' (first | (refine lendC_whole rfl ?_; first | exact ints_len _ | exact pairs_len _ | rfl) | refine cons_eq ?_ ?_ | rfl)))
  rintro r S ⟨rfl, rfl⟩
  refine u_pure 5 rfl rfl rfl (L_move rfl) ?_
  refine u_pure 6 rfl rfl rfl (L_extract rfl rfl) ?_
  refine u_pure 7 rfl rfl rfl (L_extract rfl rfl) ?_
  refine u_pure 8 rfl rfl rfl (L_extract rfl rfl) ?_
  refine u_any 10 [] ⟨?_, trivial⟩
  refine u_op 10 rfl rfl (EOp_store rfl rfl rfl (by first | exact s_bp ty_29 | exact s_ep ty_29) ?_)
  refine u_pure 11 rfl rfl rfl (L_assign rfl) ?_
  refine u_pure 12 rfl rfl rfl (L_assign rfl) ?_
  refine u_done ?_
  refine G_seq ?_
  refine G_region' (L := [0, 1, 2, 3]) rfl ?_
  refine x_light rfl rfl rfl (L_load rfl (by first | exact d_bp ty_29 | exact ld_rp ty_29 rfl | exact d_ep ty_29)) ?_
  refine xmv ?_
  refine EOps_go rfl rfl (EOp_store rfl rfl rfl (by first | exact s_bp ty_29 | exact s_ep ty_29) ?_)
  refine xas ?_
  refine EOps_nil ?_
  refine G_ret ?_
  first
   | exact ⟨_, [12, 13, 14, 15, 10], rfl, rfl, alM Y0 (cutV hs 0 k), hs, i4, h4, ⟨rfl, rfl⟩, hi4, hhs, by omega⟩
   | exact ⟨_, [11, 12, 13, 14, 10], rfl, rfl, alM Y0 (cutV hs 0 k), hs, i4, h4, ⟨rfl, rfl⟩, hi4, hhs, by omega⟩

set_option maxRecDepth 20000 in
set_option maxHeartbeats 4000000 in
theorem c_spec_l12Any_q (l : List Int) (i h : Int) (hb : byL l) (hi : curOk l i) : EFn Try.prog 75 [.c (.bp 0 0)] [.box (curC l i h), .box [.sc (.slice none 0 0), .sc (.slice none 0 0), .sc (.slice none 0 0), .sc (.slice none 0 0), .sc (.int .i64 0)], .box [.sc (.slice none 0 0), .sc (.slice none 0 0), .sc (.slice none 0 0), .sc (.slice none 0 0), .sc (.int .i64 0)]] (fun r S => ∃ (Y : Mp) (hs : List Int) (i' h' : Int), (r = .tup [(true, mpO 3 Y), (false, [.sl 7 0 hs.length hs.length])] ∧ S = [.box (curC l i' h'), .box [.sc (.slice none 0 0), .sc (.slice none 0 0), .sc (.slice none 0 0), .sc (.slice none 0 0), .sc (.int .i64 0)], .box [.sc (.slice none 0 0), .sc (.slice none 0 0), .sc (.slice none 0 0), .sc (.slice none 0 0), .sc (.int .i64 0)], .row 3 1 (ints Y.c.vals), .row 3 1 (ints Y.c.rows), .row 129 2 (pairs Y.c.piv), .row 3 1 (ints Y.tail), .row 3 1 (ints hs)]) ∧ curOk l i' ∧ hs.length ≤ 5 ∧ Y.c.vals.length ≤ 12 ∧ Y.c.rows.length ≤ 12 ∧ Y.c.piv.length ≤ 4 ∧ Y.tail.length ≤ 13) := by
  refine E_fn Try.func75 rfl (Nat.le_of_ble_eq_true rfl) ?_
  refine E_seq ?_
  refine E_region' (L := [0, 1]) rfl ?_
  refine x_alloc rfl rfl rfl rfl za_29 ?_
  refine xas ?_
  refine EOps_nil ?_
  refine E_seq ?_
  refine e_tidy_A134_5 [0, 2, 3] ?_
  refine E_region' (L := [0, 1, 2, 3, 4, 5, 6, 7]) rfl ?_
  refine xmv ?_
  refine EOps_go rfl rfl (EOp_call1 rfl rfl (by decide) rfl ca_158 (c_spec_l12Map_qm l i h hb hi) (by refine cons_eq ?_ (rfl) <;> first | (refine lend_whole rfl ?_; first | assumption | exact ints_len _ | exact pairs_len _ | exact quads_len _ | exact quints_len _ | exact bools_len _ | (simp [ints_len, bools_len, pairs_len, quads_len, quints_len, part_len, *]; done) | (simp [ints_len, bools_len, pairs_len, quads_len, quints_len]; omega) | rfl) | (refine agg_eq ?_; repeat' (first | (refine lendC_whole rfl ?_; first | assumption | exact ints_len _ | exact pairs_len _ | exact quads_len _ | exact quints_len _ | exact bools_len _ | (simp [ints_len, bools_len, pairs_len, quads_len, quints_len, part_len, *]; done) | (simp [ints_len, bools_len, pairs_len, quads_len, quints_len]; omega) | rfl) | refine cons_eq ?_ ?_ | rfl)) | rfl | simp [E.lend, E.lendC, E.ev, E.cv, E.get, E.fill', E.fill, AV.sh, AC.sh, Res.sh, ints_len, *]) ?_)
  rintro r S ⟨Y, hs, i1, h1, ⟨rfl, rfl⟩, hi1, hhs, hyv, hyr, hyp, hyt⟩
  refine xmv ?_
  refine x_pure rfl rfl rfl (L_extract rfl rfl) ?_
  refine x_pure rfl rfl rfl (L_extract rfl rfl) ?_
  refine x_alloc rfl rfl rfl rfl za_29 ?_
  refine EOps_go rfl rfl (EOp_store rfl rfl rfl (by first | exact s_bp ty_29 | exact s_ep ty_29) ?_)
  refine xas ?_
  refine EOps_nil ?_
  refine E_seq ?_
  refine E_seq ?_
  refine e_tidy_A134_5 [0, 2, 3, 4, 5] ?_
  refine E_region' (L := [0, 1]) rfl ?_
  refine xmv ?_
  refine EOps_go rfl rfl (EOp_call1 rfl rfl (by decide) rfl ca_114 (c_spec_l1Below l i1 h1 12 _ hb hi1 (by decide)) (by refine cons_eq ?_ (cons_eq ?_ (rfl)) <;> first | (refine lend_whole rfl ?_; first | assumption | exact ints_len _ | exact pairs_len _ | exact quads_len _ | exact quints_len _ | exact bools_len _ | (simp [ints_len, bools_len, pairs_len, quads_len, quints_len, part_len, *]; done) | (simp [ints_len, bools_len, pairs_len, quads_len, quints_len]; omega) | rfl) | (refine agg_eq ?_; repeat' (first | (refine lendC_whole rfl ?_; first | assumption | exact ints_len _ | exact pairs_len _ | exact quads_len _ | exact quints_len _ | exact bools_len _ | (simp [ints_len, bools_len, pairs_len, quads_len, quints_len, part_len, *]; done) | (simp [ints_len, bools_len, pairs_len, quads_len, quints_len]; omega) | rfl) | refine cons_eq ?_ ?_ | rfl)) | rfl | simp [E.lend, E.lendC, E.ev, E.cv, E.get, E.fill', E.fill, AV.sh, AC.sh, Res.sh, ints_len, *]) ?_)
  rintro r S ⟨x2, i2, h2, ⟨rfl, rfl⟩, hi2, hx2⟩
  refine EOps_nil ?_
  refine E_block ?_
  refine E_seq ?_
  refine E_region' (L := [0, 1]) rfl ?_
  refine x_pure rfl rfl rfl (L_bin rfl rfl rfl rfl) ?_
  refine xas ?_
  refine EOps_nil ?_
  refine E_cond rfl (fun hc13 => ?_) (fun hc13 => ?_)
  · refine e_tidy_A134_5 [0, 2, 3, 4, 5, 12, 13] ?_
    refine E_region' (L := [0, 1, 2, 3, 4]) rfl ?_
    refine xmv ?_
    refine EOps_go rfl rfl (Heavy.op (H_bslice rfl rfl (by decide) sl_24 ty_3 za_3 ⟨rfl, by decide⟩ (by decide) rfl rfl rfl rfl ?_))
    refine EOps_go rfl rfl (EOp_call1 rfl rfl (by decide) rfl ca_159 (c_spec_l1PickInt l i2 h2 _ 9 [-1, 0, 60, 61] 4 hb hi2 (by decide) rfl rfl) (by refine cons_eq ?_ (cons_eq ?_ (rfl)) <;> first | (refine lend_whole rfl ?_; first | assumption | exact ints_len _ | exact pairs_len _ | exact quads_len _ | exact quints_len _ | exact bools_len _ | (simp [ints_len, bools_len, pairs_len, quads_len, quints_len, part_len, *]; done) | (simp [ints_len, bools_len, pairs_len, quads_len, quints_len]; omega) | rfl) | (refine agg_eq ?_; repeat' (first | (refine lendC_whole rfl ?_; first | assumption | exact ints_len _ | exact pairs_len _ | exact quads_len _ | exact quints_len _ | exact bools_len _ | (simp [ints_len, bools_len, pairs_len, quads_len, quints_len, part_len, *]; done) | (simp [ints_len, bools_len, pairs_len, quads_len, quints_len]; omega) | rfl) | refine cons_eq ?_ ?_ | rfl)) | rfl | simp [E.lend, E.lendC, E.ev, E.cv, E.get, E.fill', E.fill, AV.sh, AC.sh, Res.sh, ints_len, *]) ?_)
    rintro r S ⟨x3, i3, h3, ⟨rfl, rfl⟩, hi3, hx3⟩
    refine x_pure rfl rfl rfl (l_field rfl fo_29_2) ?_
    refine EOps_go rfl rfl (EOp_store rfl rfl rfl (by first | exact s_bp ty_3 | exact s_ep ty_3) ?_)
    refine EOps_nil ?_
    refine E_seq ?_
    refine E_region' (L := [0, 1, 2, 3]) rfl ?_
    refine x_light rfl rfl rfl (L_load rfl (by first | exact d_bp ty_29 | exact ld_rp ty_29 rfl | exact d_ep ty_29)) ?_
    refine xmv ?_
    refine EOps_go rfl rfl (EOp_store rfl rfl rfl (by first | exact s_bp ty_29 | exact s_ep ty_29) ?_)
    refine xas ?_
    refine EOps_nil ?_
    refine E_ret ?_
    first
      | exact ⟨_, [4, 5, 6, 7, 8], rfl, rfl, Y, hs, i2, h2, ⟨rfl, rfl⟩, hi2, by omega, hyv, hyr, hyp, by omega⟩
      | exact ⟨_, [4, 5, 6, 7, 8], rfl, rfl, ⟨Y.c, Y.tail, x3⟩, hs, i3, h3, ⟨rfl, rfl⟩, hi3, by omega, hyv, hyr, hyp, by show Y.tail.length ≤ 13; omega⟩
      | (refine ⟨_, [4, 5, 6, 7, 8], rfl, rfl, ⟨Y.c, Y.tail ++ [3], Y.app⟩, hs, i2, h2, ⟨?_, ?_⟩, hi2, by omega, hyv, hyr, hyp, ?_⟩
         · simp only [mpO, ← ints_lenApp]; rfl
         · rw [← ints_app]; rfl
         · simp only [List.length_append, List.length_singleton]; omega)
      | (refine ⟨_, [4, 5, 6, 7, 8], rfl, rfl, Y, hs ++ [x3], i3, h3, ⟨?_, ?_⟩, hi3, ?_, hyv, hyr, hyp, by omega⟩
         · simp only [← ints_lenApp]; rfl
         · rw [← ints_app]; rfl
         · simp only [List.length_append, List.length_singleton]; omega)
  · refine E_seq ?_
    refine E_region' (L := [0, 1]) rfl ?_
    refine x_pure rfl rfl rfl (L_bin rfl rfl rfl rfl) ?_
    refine xas ?_
    refine EOps_nil ?_
    refine E_cond rfl (fun hc19 => ?_) (fun hc19 => ?_)
    · refine E_region' (L := [0, 1, 2, 3, 4, 5]) rfl ?_
      refine x_pure rfl rfl rfl (l_field rfl fo_29_1) ?_
      refine x_light rfl rfl rfl (L_load rfl (by first | exact d_bp ty_24 | exact ld_rp ty_24 rfl | exact d_ep ty_24)) ?_
      refine EOps_go rfl rfl (Heavy.op (H_bslice_ro rfl rfl (by decide) sl_24 ty_3 za_3 ⟨rfl, by decide⟩ (by decide) rfl rfl rfl rfl ?_))
      refine EOps_go rfl rfl (EOp_append (news := ints [3]) rfl rfl (by decide) sl_24 ty_3 by_3 za_3 ⟨rfl, by decide⟩ rfl (by first | rfl | assumption) (by first | assumption | exact ints_len _ | exact pairs_len _ | exact quads_len _ | exact quints_len _ | exact bools_len _ | (simp [ints_len, bools_len, pairs_len, quads_len, quints_len, part_len, *]; done) | (simp [ints_len, bools_len, pairs_len, quads_len, quints_len]; omega) | rfl) (by first | (refine lend_whole rfl ?_; first | assumption | exact ints_len _ | exact pairs_len _ | exact quads_len _ | exact quints_len _ | exact bools_len _ | (simp [ints_len, bools_len, pairs_len, quads_len, quints_len, part_len, *]; done) | (simp [ints_len, bools_len, pairs_len, quads_len, quints_len]; omega) | rfl) | rfl | simp [E.lend, lendC]) (by first | exact ints_row _ | exact pairs_row _ | exact quads_row _ | exact quints_row _ | exact bools_row _ | (intro r hr; simp [chunk] at hr; subst hr; exact ⟨rfl, rfl⟩)) (by simp [ints_len, bools_len, pairs_len, quads_len, quints_len, chunk]; omega) ?_)
      refine x_pure rfl rfl rfl (l_field rfl fo_29_1) ?_
      refine EOps_go rfl rfl (EOp_store rfl rfl rfl (by first | exact s_bp ty_24 | exact s_ep ty_24) ?_)
      refine EOps_nil ?_
      refine E_seq ?_
      refine E_region' (L := [0, 1, 2, 3]) rfl ?_
      refine x_light rfl rfl rfl (L_load rfl (by first | exact d_bp ty_29 | exact ld_rp ty_29 rfl | exact d_ep ty_29)) ?_
      refine xmv ?_
      refine EOps_go rfl rfl (EOp_store rfl rfl rfl (by first | exact s_bp ty_29 | exact s_ep ty_29) ?_)
      refine xas ?_
      refine EOps_nil ?_
      refine E_ret ?_
      first
        | exact ⟨_, [4, 5, 6, 7, 8], rfl, rfl, Y, hs, i2, h2, ⟨rfl, rfl⟩, hi2, by omega, hyv, hyr, hyp, by omega⟩
        | exact ⟨_, [4, 5, 6, 7, 8], rfl, rfl, ⟨Y.c, Y.tail, x3⟩, hs, i3, h3, ⟨rfl, rfl⟩, hi3, by omega, hyv, hyr, hyp, by show Y.tail.length ≤ 13; omega⟩
        | (refine ⟨_, [4, 5, 6, 7, 8], rfl, rfl, ⟨Y.c, Y.tail ++ [3], Y.app⟩, hs, i2, h2, ⟨?_, ?_⟩, hi2, by omega, hyv, hyr, hyp, ?_⟩
           · simp only [mpO, ← ints_lenApp]; rfl
           · rw [← ints_app]; rfl
           · simp only [List.length_append, List.length_singleton]; omega)
        | (refine ⟨_, [4, 5, 6, 7, 8], rfl, rfl, Y, hs ++ [x3], i3, h3, ⟨?_, ?_⟩, hi3, ?_, hyv, hyr, hyp, by omega⟩
           · simp only [← ints_lenApp]; rfl
           · rw [← ints_app]; rfl
           · simp only [List.length_append, List.length_singleton]; omega)
    · refine E_seq ?_
      refine E_region' (L := [0, 1]) rfl ?_
      refine x_pure rfl rfl rfl (L_bin rfl rfl rfl rfl) ?_
      refine xas ?_
      refine EOps_nil ?_
      refine E_cond rfl (fun hc26 => ?_) (fun hc26 => ?_)
      · refine e_tidy_A134_5 [0, 2, 3, 4, 5, 12, 13, 19, 26] ?_
        refine E_region' (L := [0, 1, 2, 3, 4, 5, 6]) rfl ?_
        refine xmv ?_
        refine xmv ?_
        refine EOps_go rfl rfl (Heavy.op (H_bslice rfl rfl (by decide) sl_24 ty_3 za_3 ⟨rfl, by decide⟩ (by decide) rfl rfl rfl rfl ?_))
        refine EOps_go rfl rfl (EOp_call1 rfl rfl (by decide) rfl ca_159 (c_spec_l1PickInt l i2 h2 _ 9 [1000, 1001] 2 hb hi2 (by decide) rfl rfl) (by refine cons_eq ?_ (cons_eq ?_ (rfl)) <;> first | (refine lend_whole rfl ?_; first | assumption | exact ints_len _ | exact pairs_len _ | exact quads_len _ | exact quints_len _ | exact bools_len _ | (simp [ints_len, bools_len, pairs_len, quads_len, quints_len, part_len, *]; done) | (simp [ints_len, bools_len, pairs_len, quads_len, quints_len]; omega) | rfl) | (refine agg_eq ?_; repeat' (first | (refine lendC_whole rfl ?_; first | assumption | exact ints_len _ | exact pairs_len _ | exact quads_len _ | exact quints_len _ | exact bools_len _ | (simp [ints_len, bools_len, pairs_len, quads_len, quints_len, part_len, *]; done) | (simp [ints_len, bools_len, pairs_len, quads_len, quints_len]; omega) | rfl) | refine cons_eq ?_ ?_ | rfl)) | rfl | simp [E.lend, E.lendC, E.ev, E.cv, E.get, E.fill', E.fill, AV.sh, AC.sh, Res.sh, ints_len, *]) ?_)
        rintro r S ⟨x3, i3, h3, ⟨rfl, rfl⟩, hi3, hx3⟩
        refine EOps_go rfl rfl (Heavy.op (H_bslice_ro rfl rfl (by decide) sl_24 ty_3 za_3 ⟨rfl, by decide⟩ (by decide) rfl rfl rfl rfl ?_))
        refine EOps_go rfl rfl (EOp_append (news := ints [x3]) rfl rfl (by decide) sl_24 ty_3 by_3 za_3 ⟨rfl, by decide⟩ rfl (by first | rfl | assumption) (by first | assumption | exact ints_len _ | exact pairs_len _ | exact quads_len _ | exact quints_len _ | exact bools_len _ | (simp [ints_len, bools_len, pairs_len, quads_len, quints_len, part_len, *]; done) | (simp [ints_len, bools_len, pairs_len, quads_len, quints_len]; omega) | rfl) (by first | (refine lend_whole rfl ?_; first | assumption | exact ints_len _ | exact pairs_len _ | exact quads_len _ | exact quints_len _ | exact bools_len _ | (simp [ints_len, bools_len, pairs_len, quads_len, quints_len, part_len, *]; done) | (simp [ints_len, bools_len, pairs_len, quads_len, quints_len]; omega) | rfl) | rfl | simp [E.lend, lendC]) (by first | exact ints_row _ | exact pairs_row _ | exact quads_row _ | exact quints_row _ | exact bools_row _ | (intro r hr; simp [chunk] at hr; subst hr; exact ⟨rfl, rfl⟩)) (by simp [ints_len, bools_len, pairs_len, quads_len, quints_len, chunk]; omega) ?_)
        refine xas ?_
        refine EOps_nil ?_
        refine E_seq ?_
        refine E_region' (L := [0, 1, 2, 3]) rfl ?_
        refine x_light rfl rfl rfl (L_load rfl (by first | exact d_bp ty_29 | exact ld_rp ty_29 rfl | exact d_ep ty_29)) ?_
        refine xmv ?_
        refine EOps_go rfl rfl (EOp_store rfl rfl rfl (by first | exact s_bp ty_29 | exact s_ep ty_29) ?_)
        refine xas ?_
        refine EOps_nil ?_
        refine E_ret ?_
        first
          | exact ⟨_, [4, 5, 6, 7, 8], rfl, rfl, Y, hs, i2, h2, ⟨rfl, rfl⟩, hi2, by omega, hyv, hyr, hyp, by omega⟩
          | exact ⟨_, [4, 5, 6, 7, 8], rfl, rfl, ⟨Y.c, Y.tail, x3⟩, hs, i3, h3, ⟨rfl, rfl⟩, hi3, by omega, hyv, hyr, hyp, by show Y.tail.length ≤ 13; omega⟩
          | (refine ⟨_, [4, 5, 6, 7, 8], rfl, rfl, ⟨Y.c, Y.tail ++ [3], Y.app⟩, hs, i2, h2, ⟨?_, ?_⟩, hi2, by omega, hyv, hyr, hyp, ?_⟩
             · simp only [mpO, ← ints_lenApp]; rfl
             · rw [← ints_app]; rfl
             · simp only [List.length_append, List.length_singleton]; omega)
          | (refine ⟨_, [4, 5, 6, 7, 8], rfl, rfl, Y, hs ++ [x3], i3, h3, ⟨?_, ?_⟩, hi3, ?_, hyv, hyr, hyp, by omega⟩
             · simp only [← ints_lenApp]; rfl
             · rw [← ints_app]; rfl
             · simp only [List.length_append, List.length_singleton]; omega)
      · refine E_skip ?_
        refine E_seq ?_
        refine E_region' (L := [0, 1, 2, 3]) rfl ?_
        refine x_light rfl rfl rfl (L_load rfl (by first | exact d_bp ty_29 | exact ld_rp ty_29 rfl | exact d_ep ty_29)) ?_
        refine xmv ?_
        refine EOps_go rfl rfl (EOp_store rfl rfl rfl (by first | exact s_bp ty_29 | exact s_ep ty_29) ?_)
        refine xas ?_
        refine EOps_nil ?_
        refine E_ret ?_
        first
          | exact ⟨_, [4, 5, 6, 7, 8], rfl, rfl, Y, hs, i2, h2, ⟨rfl, rfl⟩, hi2, by omega, hyv, hyr, hyp, by omega⟩
          | exact ⟨_, [4, 5, 6, 7, 8], rfl, rfl, ⟨Y.c, Y.tail, x3⟩, hs, i3, h3, ⟨rfl, rfl⟩, hi3, by omega, hyv, hyr, hyp, by show Y.tail.length ≤ 13; omega⟩
          | (refine ⟨_, [4, 5, 6, 7, 8], rfl, rfl, ⟨Y.c, Y.tail ++ [3], Y.app⟩, hs, i2, h2, ⟨?_, ?_⟩, hi2, by omega, hyv, hyr, hyp, ?_⟩
             · simp only [mpO, ← ints_lenApp]; rfl
             · rw [← ints_app]; rfl
             · simp only [List.length_append, List.length_singleton]; omega)
          | (refine ⟨_, [4, 5, 6, 7, 8], rfl, rfl, Y, hs ++ [x3], i3, h3, ⟨?_, ?_⟩, hi3, ?_, hyv, hyr, hyp, by omega⟩
             · simp only [← ints_lenApp]; rfl
             · rw [← ints_app]; rfl
             · simp only [List.length_append, List.length_singleton]; omega)

set_option maxRecDepth 20000 in
set_option maxHeartbeats 2000000 in
theorem c_spec_l12Tail_za (l : List Int) (i h : Int) (Y : Mp) (hs : List Int) (n : Nat) (hb : byL l) (hi : curOk l i) (hn : n ≤ 100000) : EFn Try.prog 121 [.c (.bp 0 0), .c (.sc (.int .i64 (n : Int)))] [.box (curC l i h), .box [.sc (.slice none 0 0), .sc (.slice none 0 0), .sc (.slice none 0 0), .sc (.slice none 0 0), .sc (.int .i64 0)], .box [.sc (.slice none 0 0), .sc (.slice none 0 0), .sc (.slice none 0 0), .sc (.slice none 0 0), .sc (.int .i64 0)], .row 3 1 (ints Y.c.vals), .row 3 1 (ints Y.c.rows), .row 129 2 (pairs Y.c.piv), .row 3 1 (ints Y.tail), .row 3 1 (ints hs), .box (mpO 3 Y)] (fun r S => ∃ (ys : List Int) (i' h' : Int), (r = .c (.sl 9 0 ys.length ys.length) ∧ S = [.box (curC l i' h'), .box [.sc (.slice none 0 0), .sc (.slice none 0 0), .sc (.slice none 0 0), .sc (.slice none 0 0), .sc (.int .i64 0)], .box [.sc (.slice none 0 0), .sc (.slice none 0 0), .sc (.slice none 0 0), .sc (.slice none 0 0), .sc (.int .i64 0)], .row 3 1 (ints Y.c.vals), .row 3 1 (ints Y.c.rows), .row 129 2 (pairs Y.c.piv), .row 3 1 (ints Y.tail), .row 3 1 (ints hs), .box (mpO 3 Y), .row 3 1 (ints ys)]) ∧ curOk l i' ∧ ys.length = n) := by
 refine E_fn Try.func121 rfl (Nat.le_of_ble_eq_true rfl) ?_
 refine E_seq ?_
 refine E_region' (L := [0]) rfl ?_
 refine xas ?_
 refine EOps_nil ?_
 refine E_seq ?_
 refine E_region' (L := [0, 1]) rfl ?_
 refine EOps_go rfl rfl (Heavy.op (H_bslice rfl rfl (by decide) sl_24 ty_3 za_3 ⟨rfl, by decide⟩ (by decide) rfl rfl rfl rfl ?_))
 refine xas ?_
 refine EOps_nil ?_
 refine E_seq ?_
 refine E_seq ?_
 refine E_region' (L := [0]) rfl ?_
 refine xas ?_
 refine EOps_nil ?_
 refine E_block ?_
 refine e_for_A134_1 (α := Nat × List Int × Int × Int) [0, 1, 4] (fun (k, ys, i3, h3) => [(6, .c (.sc (.int .i64 ((k : Int))))), (5, .c (.sl 9 0 ys.length ys.length)), (7, .any)]) (fun (k, ys, i3, h3) => [.box (curC l i3 h3), .box [.sc (.slice none 0 0), .sc (.slice none 0 0), .sc (.slice none 0 0), .sc (.slice none 0 0), .sc (.int .i64 0)], .box [.sc (.slice none 0 0), .sc (.slice none 0 0), .sc (.slice none 0 0), .sc (.slice none 0 0), .sc (.int .i64 0)], .row 3 1 (ints Y.c.vals), .row 3 1 (ints Y.c.rows), .row 129 2 (pairs Y.c.piv), .row 3 1 (ints Y.tail), .row 3 1 (ints hs), .box (mpO 3 Y), .row 3 1 (ints ys)]) (fun (k, ys, i3, h3) => ys.length = k ∧ k ≤ n ∧ curOk l i3) (fun (k, ys, i3, h3) => n - k) ((0, [], i, h)) ?_ (rfl) ⟨.inr rfl, .inr rfl, .inl rfl, trivial⟩ ?_
 ·exact ⟨rfl, Nat.zero_le _, hi⟩
 rintro ⟨k, ys, i3, h3⟩ ⟨hyk, hkn, hi3⟩
 dsimp only at *
 refine E_seq ?_
 refine E_seq ?_
 refine E_region' (L := [0, 1, 2]) rfl ?_
 refine xmv ?_
 refine xmv ?_
 refine x_pure rfl rfl rfl (L_bin rfl rfl rfl rfl) ?_
 refine EOps_nil ?_
 refine E_cond rfl (fun hc11 => ?_) (fun hc11 => ?_)
 ·have hn1 : k < n := by simp at hc11; omega
  refine E_skip ?_
  refine E_seq ?_
  refine E_block ?_
  refine E_seq ?_
  refine e_tidy_A134_0 [0, 1, 4, 5, 6, 7, 11] ?_
  refine E_region' (L := [0, 1, 2, 3]) rfl ?_
  refine xmv ?_
  refine EOps_go rfl rfl (EOp_call1 rfl rfl (by decide) rfl ca_114 (c_spec_l1Below l i3 h3 40 _ hb hi3 (by decide)) (by refine cons_eq ?_ (cons_eq ?_ (rfl)) <;> first | (refine lend_whole rfl ?_; first | assumption | exact ints_len _ | exact pairs_len _ | exact quads_len _ | exact quints_len _ | exact bools_len _ | (simp [ints_len, bools_len, pairs_len, quads_len, quints_len, part_len, *]; done) | (simp [ints_len, bools_len, pairs_len, quads_len, quints_len]; omega) | rfl) | (refine agg_eq ?_; repeat' (first | (refine lendC_whole rfl ?_; first | assumption | exact ints_len _ | exact pairs_len _ | exact quads_len _ | exact quints_len _ | exact bools_len _ | (simp [ints_len, bools_len, pairs_len, quads_len, quints_len, part_len, *]; done) | (simp [ints_len, bools_len, pairs_len, quads_len, quints_len]; omega) | rfl) | refine cons_eq ?_ ?_ | rfl)) | rfl | simp [E.lend, E.lendC, E.ev, E.cv, E.get, E.fill', E.fill, AV.sh, AC.sh, Res.sh, ints_len, *]) ?_)
  rintro r S ⟨x4, i4, h4, ⟨rfl, rfl⟩, hi4, hx4⟩
  refine x_pure rfl rfl rfl (by first | exact l_sub rfl rfl rfl | exact L_bin rfl rfl rfl rfl) ?_
  generalize hzz : (x4 - 5 : Int) = zz
  refine xas ?_
  refine EOps_nil ?_
  refine E_region' (L := [0, 1, 2, 3, 4]) rfl ?_
  refine xmv ?_
  refine xmv ?_
  refine EOps_go rfl rfl (Heavy.op (H_bslice_ro rfl rfl (by decide) sl_24 ty_3 za_3 ⟨rfl, by decide⟩ (by decide) rfl rfl rfl rfl ?_))
  refine EOps_go rfl rfl (EOp_append (news := ints [zz]) rfl rfl (by decide) sl_24 ty_3 by_3 za_3 ⟨rfl, by decide⟩ rfl (by first | rfl | assumption) (by first | assumption | exact ints_len _ | exact pairs_len _ | exact quads_len _ | exact quints_len _ | exact bools_len _ | (simp [ints_len, bools_len, pairs_len, quads_len, quints_len, part_len, *]; done) | (simp [ints_len, bools_len, pairs_len, quads_len, quints_len]; omega) | rfl) (by first | (refine lend_whole rfl ?_; first | assumption | exact ints_len _ | exact pairs_len _ | exact quads_len _ | exact quints_len _ | exact bools_len _ | (simp [ints_len, bools_len, pairs_len, quads_len, quints_len, part_len, *]; done) | (simp [ints_len, bools_len, pairs_len, quads_len, quints_len]; omega) | rfl) | rfl | simp [E.lend, lendC]) (by first | exact ints_row _ | exact pairs_row _ | exact quads_row _ | exact quints_row _ | exact bools_row _ | (intro r hr; simp [chunk] at hr; subst hr; exact ⟨rfl, rfl⟩)) (by simp [ints_len, bools_len, pairs_len, quads_len, quints_len, chunk]; omega) ?_)
  refine xas ?_
  refine EOps_nil ?_
  refine E_region' (L := [0, 1, 2]) rfl ?_
  refine xmv ?_
  refine x_pure rfl rfl rfl (by first | exact l_add rfl rfl rfl | exact L_bin rfl rfl rfl rfl) ?_
  refine xas ?_
  refine EOps_nil ?_
  refine ⟨(k + 1, ys ++ [zz], i4, h4), ?_, ?_, (by dsimp only; rw [← ints_app]; rfl), ⟨.inr (int_eq (by first | omega | (dsimp only; omega))), .inr ((by dsimp only; rw [← ints_lenApp]; rfl)), .inl rfl, trivial⟩, ⟨.inr rfl, .inr rfl, .inr rfl, trivial⟩⟩
  ·dsimp only; omega
  ·exact ⟨by simp; omega, by dsimp only; omega, hi4⟩
 ·have hkn2 : k = n := by simp at hc11; omega
  refine E_exit ?_
  refine E_seq ?_
  refine E_region' (L := [0, 1]) rfl ?_
  refine xmv ?_
  refine xas ?_
  refine EOps_nil ?_
  refine E_ret ?_
  exact ⟨_, [9], rfl, rfl, ys, i3, h3, ⟨rfl, rfl⟩, hi3, by omega⟩

set_option maxRecDepth 20000 in
set_option maxHeartbeats 2000000 in
theorem c_spec_l12Tail_zb (l : List Int) (i h : Int) (Y : Mp) (hs : List Int) (n : Nat) (hb : byL l) (hi : curOk l i) (hn : n ≤ 100000) : EFn Try.prog 121 [.c (.bp 0 0), .c (.sc (.int .i64 (n : Int)))] [.box (curC l i h), .box [.sc (.slice none 0 0), .sc (.slice none 0 0), .sc (.slice none 0 0), .sc (.slice none 0 0), .sc (.int .i64 0)], .box [.sc (.slice none 0 0), .sc (.slice none 0 0), .sc (.slice none 0 0), .sc (.slice none 0 0), .sc (.int .i64 0)], .row 3 1 (ints Y.c.vals), .row 3 1 (ints Y.c.rows), .row 129 2 (pairs Y.c.piv), .row 3 1 (ints Y.tail), .row 3 1 (ints hs), .box (mpO 3 Y), .box [.sc (.slice none 0 0), .sc (.slice none 0 0), .sc (.slice none 0 0), .sc (.slice none 0 0), .sc (.int .i64 0)]] (fun r S => ∃ (ys : List Int) (i' h' : Int), (r = .c (.sl 10 0 ys.length ys.length) ∧ S = [.box (curC l i' h'), .box [.sc (.slice none 0 0), .sc (.slice none 0 0), .sc (.slice none 0 0), .sc (.slice none 0 0), .sc (.int .i64 0)], .box [.sc (.slice none 0 0), .sc (.slice none 0 0), .sc (.slice none 0 0), .sc (.slice none 0 0), .sc (.int .i64 0)], .row 3 1 (ints Y.c.vals), .row 3 1 (ints Y.c.rows), .row 129 2 (pairs Y.c.piv), .row 3 1 (ints Y.tail), .row 3 1 (ints hs), .box (mpO 3 Y), .box [.sc (.slice none 0 0), .sc (.slice none 0 0), .sc (.slice none 0 0), .sc (.slice none 0 0), .sc (.int .i64 0)], .row 3 1 (ints ys)]) ∧ curOk l i' ∧ ys.length = n) := by
 refine E_fn Try.func121 rfl (Nat.le_of_ble_eq_true rfl) ?_
 refine E_seq ?_
 refine E_region' (L := [0]) rfl ?_
 refine xas ?_
 refine EOps_nil ?_
 refine E_seq ?_
 refine E_region' (L := [0, 1]) rfl ?_
 refine EOps_go rfl rfl (Heavy.op (H_bslice rfl rfl (by decide) sl_24 ty_3 za_3 ⟨rfl, by decide⟩ (by decide) rfl rfl rfl rfl ?_))
 refine xas ?_
 refine EOps_nil ?_
 refine E_seq ?_
 refine E_seq ?_
 refine E_region' (L := [0]) rfl ?_
 refine xas ?_
 refine EOps_nil ?_
 refine E_block ?_
 refine e_for_A134_1 (α := Nat × List Int × Int × Int) [0, 1, 4] (fun (k, ys, i3, h3) => [(6, .c (.sc (.int .i64 ((k : Int))))), (5, .c (.sl 10 0 ys.length ys.length)), (7, .any)]) (fun (k, ys, i3, h3) => [.box (curC l i3 h3), .box [.sc (.slice none 0 0), .sc (.slice none 0 0), .sc (.slice none 0 0), .sc (.slice none 0 0), .sc (.int .i64 0)], .box [.sc (.slice none 0 0), .sc (.slice none 0 0), .sc (.slice none 0 0), .sc (.slice none 0 0), .sc (.int .i64 0)], .row 3 1 (ints Y.c.vals), .row 3 1 (ints Y.c.rows), .row 129 2 (pairs Y.c.piv), .row 3 1 (ints Y.tail), .row 3 1 (ints hs), .box (mpO 3 Y), .box [.sc (.slice none 0 0), .sc (.slice none 0 0), .sc (.slice none 0 0), .sc (.slice none 0 0), .sc (.int .i64 0)], .row 3 1 (ints ys)]) (fun (k, ys, i3, h3) => ys.length = k ∧ k ≤ n ∧ curOk l i3) (fun (k, ys, i3, h3) => n - k) ((0, [], i, h)) ?_ (rfl) ⟨.inr rfl, .inr rfl, .inl rfl, trivial⟩ ?_
 ·exact ⟨rfl, Nat.zero_le _, hi⟩
 rintro ⟨k, ys, i3, h3⟩ ⟨hyk, hkn, hi3⟩
 dsimp only at *
 refine E_seq ?_
 refine E_seq ?_
 refine E_region' (L := [0, 1, 2]) rfl ?_
 refine xmv ?_
 refine xmv ?_
 refine x_pure rfl rfl rfl (L_bin rfl rfl rfl rfl) ?_
 refine EOps_nil ?_
 refine E_cond rfl (fun hc11 => ?_) (fun hc11 => ?_)
 ·have hn1 : k < n := by simp at hc11; omega
  refine E_skip ?_
  refine E_seq ?_
  refine E_block ?_
  refine E_seq ?_
  refine e_tidy_A134_0 [0, 1, 4, 5, 6, 7, 11] ?_
  refine E_region' (L := [0, 1, 2, 3]) rfl ?_
  refine xmv ?_
  refine EOps_go rfl rfl (EOp_call1 rfl rfl (by decide) rfl ca_114 (c_spec_l1Below l i3 h3 40 _ hb hi3 (by decide)) (by refine cons_eq ?_ (cons_eq ?_ (rfl)) <;> first | (refine lend_whole rfl ?_; first | assumption | exact ints_len _ | exact pairs_len _ | exact quads_len _ | exact quints_len _ | exact bools_len _ | (simp [ints_len, bools_len, pairs_len, quads_len, quints_len, part_len, *]; done) | (simp [ints_len, bools_len, pairs_len, quads_len, quints_len]; omega) | rfl) | (refine agg_eq ?_; repeat' (first | (refine lendC_whole rfl ?_; first | assumption | exact ints_len _ | exact pairs_len _ | exact quads_len _ | exact quints_len _ | exact bools_len _ | (simp [ints_len, bools_len, pairs_len, quads_len, quints_len, part_len, *]; done) | (simp [ints_len, bools_len, pairs_len, quads_len, quints_len]; omega) | rfl) | refine cons_eq ?_ ?_ | rfl)) | rfl | simp [E.lend, E.lendC, E.ev, E.cv, E.get, E.fill', E.fill, AV.sh, AC.sh, Res.sh, ints_len, *]) ?_)
  rintro r S ⟨x4, i4, h4, ⟨rfl, rfl⟩, hi4, hx4⟩
  refine x_pure rfl rfl rfl (by first | exact l_sub rfl rfl rfl | exact L_bin rfl rfl rfl rfl) ?_
  generalize hzz : (x4 - 5 : Int) = zz
  refine xas ?_
  refine EOps_nil ?_
  refine E_region' (L := [0, 1, 2, 3, 4]) rfl ?_
  refine xmv ?_
  refine xmv ?_
  refine EOps_go rfl rfl (Heavy.op (H_bslice_ro rfl rfl (by decide) sl_24 ty_3 za_3 ⟨rfl, by decide⟩ (by decide) rfl rfl rfl rfl ?_))
  refine EOps_go rfl rfl (EOp_append (news := ints [zz]) rfl rfl (by decide) sl_24 ty_3 by_3 za_3 ⟨rfl, by decide⟩ rfl (by first | rfl | assumption) (by first | assumption | exact ints_len _ | exact pairs_len _ | exact quads_len _ | exact quints_len _ | exact bools_len _ | (simp [ints_len, bools_len, pairs_len, quads_len, quints_len, part_len, *]; done) | (simp [ints_len, bools_len, pairs_len, quads_len, quints_len]; omega) | rfl) (by first | (refine lend_whole rfl ?_; first | assumption | exact ints_len _ | exact pairs_len _ | exact quads_len _ | exact quints_len _ | exact bools_len _ | (simp [ints_len, bools_len, pairs_len, quads_len, quints_len, part_len, *]; done) | (simp [ints_len, bools_len, pairs_len, quads_len, quints_len]; omega) | rfl) | rfl | simp [E.lend, lendC]) (by first | exact ints_row _ | exact pairs_row _ | exact quads_row _ | exact quints_row _ | exact bools_row _ | (intro r hr; simp [chunk] at hr; subst hr; exact ⟨rfl, rfl⟩)) (by simp [ints_len, bools_len, pairs_len, quads_len, quints_len, chunk]; omega) ?_)
  refine xas ?_
  refine EOps_nil ?_
  refine E_region' (L := [0, 1, 2]) rfl ?_
  refine xmv ?_
  refine x_pure rfl rfl rfl (by first | exact l_add rfl rfl rfl | exact L_bin rfl rfl rfl rfl) ?_
  refine xas ?_
  refine EOps_nil ?_
  refine ⟨(k + 1, ys ++ [zz], i4, h4), ?_, ?_, (by dsimp only; rw [← ints_app]; rfl), ⟨.inr (int_eq (by first | omega | (dsimp only; omega))), .inr ((by dsimp only; rw [← ints_lenApp]; rfl)), .inl rfl, trivial⟩, ⟨.inr rfl, .inr rfl, .inr rfl, trivial⟩⟩
  ·dsimp only; omega
  ·exact ⟨by simp; omega, by dsimp only; omega, hi4⟩
 ·have hkn2 : k = n := by simp at hc11; omega
  refine E_exit ?_
  refine E_seq ?_
  refine E_region' (L := [0, 1]) rfl ?_
  refine xmv ?_
  refine xas ?_
  refine EOps_nil ?_
  refine E_ret ?_
  exact ⟨_, [10], rfl, rfl, ys, i3, h3, ⟨rfl, rfl⟩, hi3, by omega⟩

set_option maxRecDepth 20000 in
set_option maxHeartbeats 2000000 in
theorem c_spec_l12Tail_zc (l : List Int) (i h : Int) (Y : Mp) (n : Nat) (hb : byL l) (hi : curOk l i) (hn : n ≤ 100000) : EFn Try.prog 121 [.c (.bp 0 0), .c (.sc (.int .i64 (n : Int)))] [.box (curC l i h), .box [.sc (.slice none 0 0), .sc (.slice none 0 0), .sc (.slice none 0 0), .sc (.slice none 0 0), .sc (.int .i64 0)], .box [.sc (.slice none 0 0), .sc (.slice none 0 0), .sc (.slice none 0 0), .sc (.slice none 0 0), .sc (.int .i64 0)], .row 3 1 (ints Y.c.vals), .row 3 1 (ints Y.c.rows), .row 129 2 (pairs Y.c.piv), .row 3 1 (ints Y.tail), .box (mpO 3 Y), .row 3 1 (ints Y.c.vals), .row 3 1 (ints Y.c.rows), .row 129 2 (pairs Y.c.piv), .row 3 1 (ints Y.tail), .box (mpO 8 Y)] (fun r S => ∃ (ys : List Int) (i' h' : Int), (r = .c (.sl 13 0 ys.length ys.length) ∧ S = [.box (curC l i' h'), .box [.sc (.slice none 0 0), .sc (.slice none 0 0), .sc (.slice none 0 0), .sc (.slice none 0 0), .sc (.int .i64 0)], .box [.sc (.slice none 0 0), .sc (.slice none 0 0), .sc (.slice none 0 0), .sc (.slice none 0 0), .sc (.int .i64 0)], .row 3 1 (ints Y.c.vals), .row 3 1 (ints Y.c.rows), .row 129 2 (pairs Y.c.piv), .row 3 1 (ints Y.tail), .box (mpO 3 Y), .row 3 1 (ints Y.c.vals), .row 3 1 (ints Y.c.rows), .row 129 2 (pairs Y.c.piv), .row 3 1 (ints Y.tail), .box (mpO 8 Y), .row 3 1 (ints ys)]) ∧ curOk l i' ∧ ys.length = n) := by
 refine E_fn Try.func121 rfl (Nat.le_of_ble_eq_true rfl) ?_
 refine E_seq ?_
 refine E_region' (L := [0]) rfl ?_
 refine xas ?_
 refine EOps_nil ?_
 refine E_seq ?_
 refine E_region' (L := [0, 1]) rfl ?_
 refine EOps_go rfl rfl (Heavy.op (H_bslice rfl rfl (by decide) sl_24 ty_3 za_3 ⟨rfl, by decide⟩ (by decide) rfl rfl rfl rfl ?_))
 refine xas ?_
 refine EOps_nil ?_
 refine E_seq ?_
 refine E_seq ?_
 refine E_region' (L := [0]) rfl ?_
 refine xas ?_
 refine EOps_nil ?_
 refine E_block ?_
 refine e_for_A134_1 (α := Nat × List Int × Int × Int) [0, 1, 4] (fun (k, ys, i3, h3) => [(6, .c (.sc (.int .i64 ((k : Int))))), (5, .c (.sl 13 0 ys.length ys.length)), (7, .any)]) (fun (k, ys, i3, h3) => [.box (curC l i3 h3), .box [.sc (.slice none 0 0), .sc (.slice none 0 0), .sc (.slice none 0 0), .sc (.slice none 0 0), .sc (.int .i64 0)], .box [.sc (.slice none 0 0), .sc (.slice none 0 0), .sc (.slice none 0 0), .sc (.slice none 0 0), .sc (.int .i64 0)], .row 3 1 (ints Y.c.vals), .row 3 1 (ints Y.c.rows), .row 129 2 (pairs Y.c.piv), .row 3 1 (ints Y.tail), .box (mpO 3 Y), .row 3 1 (ints Y.c.vals), .row 3 1 (ints Y.c.rows), .row 129 2 (pairs Y.c.piv), .row 3 1 (ints Y.tail), .box (mpO 8 Y), .row 3 1 (ints ys)]) (fun (k, ys, i3, h3) => ys.length = k ∧ k ≤ n ∧ curOk l i3) (fun (k, ys, i3, h3) => n - k) ((0, [], i, h)) ?_ (rfl) ⟨.inr rfl, .inr rfl, .inl rfl, trivial⟩ ?_
 ·exact ⟨rfl, Nat.zero_le _, hi⟩
 rintro ⟨k, ys, i3, h3⟩ ⟨hyk, hkn, hi3⟩
 dsimp only at *
 refine E_seq ?_
 refine E_seq ?_
 refine E_region' (L := [0, 1, 2]) rfl ?_
 refine xmv ?_
 refine xmv ?_
 refine x_pure rfl rfl rfl (L_bin rfl rfl rfl rfl) ?_
 refine EOps_nil ?_
 refine E_cond rfl (fun hc11 => ?_) (fun hc11 => ?_)
 ·have hn1 : k < n := by simp at hc11; omega
  refine E_skip ?_
  refine E_seq ?_
  refine E_block ?_
  refine E_seq ?_
  refine e_tidy_A134_0 [0, 1, 4, 5, 6, 7, 11] ?_
  refine E_region' (L := [0, 1, 2, 3]) rfl ?_
  refine xmv ?_
  refine EOps_go rfl rfl (EOp_call1 rfl rfl (by decide) rfl ca_114 (c_spec_l1Below l i3 h3 40 _ hb hi3 (by decide)) (by refine cons_eq ?_ (cons_eq ?_ (rfl)) <;> first | (refine lend_whole rfl ?_; first | assumption | exact ints_len _ | exact pairs_len _ | exact quads_len _ | exact quints_len _ | exact bools_len _ | (simp [ints_len, bools_len, pairs_len, quads_len, quints_len, part_len, *]; done) | (simp [ints_len, bools_len, pairs_len, quads_len, quints_len]; omega) | rfl) | (refine agg_eq ?_; repeat' (first | (refine lendC_whole rfl ?_; first | assumption | exact ints_len _ | exact pairs_len _ | exact quads_len _ | exact quints_len _ | exact bools_len _ | (simp [ints_len, bools_len, pairs_len, quads_len, quints_len, part_len, *]; done) | (simp [ints_len, bools_len, pairs_len, quads_len, quints_len]; omega) | rfl) | refine cons_eq ?_ ?_ | rfl)) | rfl | simp [E.lend, E.lendC, E.ev, E.cv, E.get, E.fill', E.fill, AV.sh, AC.sh, Res.sh, ints_len, *]) ?_)
  rintro r S ⟨x4, i4, h4, ⟨rfl, rfl⟩, hi4, hx4⟩
  refine x_pure rfl rfl rfl (by first | exact l_sub rfl rfl rfl | exact L_bin rfl rfl rfl rfl) ?_
  generalize hzz : (x4 - 5 : Int) = zz
  refine xas ?_
  refine EOps_nil ?_
  refine E_region' (L := [0, 1, 2, 3, 4]) rfl ?_
  refine xmv ?_
  refine xmv ?_
  refine EOps_go rfl rfl (Heavy.op (H_bslice_ro rfl rfl (by decide) sl_24 ty_3 za_3 ⟨rfl, by decide⟩ (by decide) rfl rfl rfl rfl ?_))
  refine EOps_go rfl rfl (EOp_append (news := ints [zz]) rfl rfl (by decide) sl_24 ty_3 by_3 za_3 ⟨rfl, by decide⟩ rfl (by first | rfl | assumption) (by first | assumption | exact ints_len _ | exact pairs_len _ | exact quads_len _ | exact quints_len _ | exact bools_len _ | (simp [ints_len, bools_len, pairs_len, quads_len, quints_len, part_len, *]; done) | (simp [ints_len, bools_len, pairs_len, quads_len, quints_len]; omega) | rfl) (by first | (refine lend_whole rfl ?_; first | assumption | exact ints_len _ | exact pairs_len _ | exact quads_len _ | exact quints_len _ | exact bools_len _ | (simp [ints_len, bools_len, pairs_len, quads_len, quints_len, part_len, *]; done) | (simp [ints_len, bools_len, pairs_len, quads_len, quints_len]; omega) | rfl) | rfl | simp [E.lend, lendC]) (by first | exact ints_row _ | exact pairs_row _ | exact quads_row _ | exact quints_row _ | exact bools_row _ | (intro r hr; simp [chunk] at hr; subst hr; exact ⟨rfl, rfl⟩)) (by simp [ints_len, bools_len, pairs_len, quads_len, quints_len, chunk]; omega) ?_)
  refine xas ?_
  refine EOps_nil ?_
  refine E_region' (L := [0, 1, 2]) rfl ?_
  refine xmv ?_
  refine x_pure rfl rfl rfl (by first | exact l_add rfl rfl rfl | exact L_bin rfl rfl rfl rfl) ?_
  refine xas ?_
  refine EOps_nil ?_
  refine ⟨(k + 1, ys ++ [zz], i4, h4), ?_, ?_, (by dsimp only; rw [← ints_app]; rfl), ⟨.inr (int_eq (by first | omega | (dsimp only; omega))), .inr ((by dsimp only; rw [← ints_lenApp]; rfl)), .inl rfl, trivial⟩, ⟨.inr rfl, .inr rfl, .inr rfl, trivial⟩⟩
  ·dsimp only; omega
  ·exact ⟨by simp; omega, by dsimp only; omega, hi4⟩
 ·have hkn2 : k = n := by simp at hc11; omega
  refine E_exit ?_
  refine E_seq ?_
  refine E_region' (L := [0, 1]) rfl ?_
  refine xmv ?_
  refine xas ?_
  refine EOps_nil ?_
  refine E_ret ?_
  exact ⟨_, [13], rfl, rfl, ys, i3, h3, ⟨rfl, rfl⟩, hi3, by omega⟩

set_option maxRecDepth 20000 in
set_option maxHeartbeats 8000000 in
theorem c_spec_DrawAreAligned (l : List Int) (hb : byL l) : EFn Try.prog 47 [.c (.ro (bytes l))] [] (fun r S => ∃ (Y M : Mp), (r = .tup [(true, mpO 0 Y), (true, mpO 4 M)] ∧ S = mpR 3 129 Y ++ mpR 3 129 M) ∧ (Y.c.vals.length ≤ 12 ∧ Y.c.rows.length ≤ 12 ∧ Y.c.piv.length ≤ 9 ∧ Y.tail.length ≤ 13) ∧ (M.c.vals.length ≤ 12 ∧ M.c.rows.length ≤ 12 ∧ M.c.piv.length ≤ 9 ∧ M.tail.length ≤ 13)) := by
  refine E_fn Try.func47 rfl (Nat.le_of_ble_eq_true rfl) ?_
  refine E_G (n := 0) rfl ?_
  refine G_seq ?_
  refine G_region' (L := [0, 1]) rfl ?_
  refine x_alloc rfl rfl rfl rfl za_29 ?_
  refine x_alloc rfl rfl rfl rfl za_29 ?_
  refine EOps_nil ?_
  refine G_seq ?_
  refine g_tidy_A134_2 [0, 2, 3] ?_
  refine G_region' (L := [0, 1, 2]) rfl ?_
  refine xmv ?_
  refine EOps_go rfl rfl (EOp_call1 rfl rfl (by decide) rfl ca_74 (c_spec_l1New l _ hb) (by refine cons_eq ?_ (rfl) <;> first | (refine lend_whole rfl ?_; first | assumption | exact ints_len _ | exact pairs_len _ | exact quads_len _ | exact quints_len _ | exact bools_len _ | (simp [ints_len, bools_len, pairs_len, quads_len, quints_len, part_len, *]; done) | (simp [ints_len, bools_len, pairs_len, quads_len, quints_len]; omega) | rfl) | (refine agg_eq ?_; repeat' (first | (refine lendC_whole rfl ?_; first | assumption | exact ints_len _ | exact pairs_len _ | exact quads_len _ | exact quints_len _ | exact bools_len _ | (simp [ints_len, bools_len, pairs_len, quads_len, quints_len, part_len, *]; done) | (simp [ints_len, bools_len, pairs_len, quads_len, quints_len]; omega) | rfl) | refine cons_eq ?_ ?_ | rfl)) | rfl | simp [E.lend, E.lendC, E.ev, E.cv, E.get, E.fill', E.fill, AV.sh, AC.sh, Res.sh, ints_len, *]) ?_)
  rintro r S ⟨h1, rfl, rfl⟩
  refine xas ?_
  refine EOps_nil ?_
  refine G_seq ?_
  refine G_drop [0, 2, 3, 4] [2, 0, 1] rfl rfl rfl ?_
  refine g_tidy_A134_2 [0, 2, 3, 4] ?_
  refine G_region' (L := [0, 1, 2, 3, 4, 5, 6, 7]) rfl ?_
  refine xmv ?_
  refine EOps_go rfl rfl (EOp_call1 rfl rfl (by decide) rfl ca_75 (c_spec_l12Any_q l 0 h1 hb (by unfold curOk; omega)) (by refine cons_eq ?_ (rfl) <;> first | (refine lend_whole rfl ?_; first | assumption | exact ints_len _ | exact pairs_len _ | exact quads_len _ | exact quints_len _ | exact bools_len _ | (simp [ints_len, bools_len, pairs_len, quads_len, quints_len, part_len, *]; done) | (simp [ints_len, bools_len, pairs_len, quads_len, quints_len]; omega) | rfl) | (refine agg_eq ?_; repeat' (first | (refine lendC_whole rfl ?_; first | assumption | exact ints_len _ | exact pairs_len _ | exact quads_len _ | exact quints_len _ | exact bools_len _ | (simp [ints_len, bools_len, pairs_len, quads_len, quints_len, part_len, *]; done) | (simp [ints_len, bools_len, pairs_len, quads_len, quints_len]; omega) | rfl) | refine cons_eq ?_ ?_ | rfl)) | rfl | simp [E.lend, E.lendC, E.ev, E.cv, E.get, E.fill', E.fill, AV.sh, AC.sh, Res.sh, ints_len, *]) ?_)
  rintro r S ⟨Y, hs, i2, h2, ⟨rfl, rfl⟩, hi2, hhs, hyv, hyr, hyp, hyt⟩
  refine xmv ?_
  refine x_pure rfl rfl rfl (L_extract rfl rfl) ?_
  refine x_pure rfl rfl rfl (L_extract rfl rfl) ?_
  refine x_alloc rfl rfl rfl rfl za_29 ?_
  refine EOps_go rfl rfl (EOp_store rfl rfl rfl (by first | exact s_bp ty_29 | exact s_ep ty_29) ?_)
  refine xas ?_
  refine EOps_nil ?_
  refine g_seqD_A134_6 (α := List Int × Int × Int) [0, 2, 3, 4, 5, 6] (fun (ys, i4, h4) => [(7, .c (.bp 13 0))]) (fun (ys, i4, h4) => [.box (curC l i4 h4), .box [.sc (.slice none 0 0), .sc (.slice none 0 0), .sc (.slice none 0 0), .sc (.slice none 0 0), .sc (.int .i64 0)], .box [.sc (.slice none 0 0), .sc (.slice none 0 0), .sc (.slice none 0 0), .sc (.slice none 0 0), .sc (.int .i64 0)], .row 3 1 (ints Y.c.vals), .row 3 1 (ints Y.c.rows), .row 129 2 (pairs Y.c.piv), .row 3 1 (ints Y.tail), .row 3 1 (ints hs), .box (mpO 3 Y), .row 3 1 (ints (newMp Y.c.vals ys).c.vals), .row 3 1 (ints (newMp Y.c.vals ys).c.rows), .row 129 2 (pairs (newMp Y.c.vals ys).c.piv), .row 3 1 (ints (newMp Y.c.vals ys).tail), .box (mpO 9 (newMp Y.c.vals ys))]) (fun (ys, i4, h4) => curOk l i4 ∧ ys.length = Y.tail.length) ?_ ?_
  · refine g_tidy_A134_2 [0, 2, 3, 4, 5, 6] ?_
    refine G_drawU mixed ?_
    refine u_pure 0 rfl rfl rfl (l_field rfl fo_29_0) ?_
    refine u_pure 1 rfl rfl rfl (l_field rfl fo_27_0) ?_
    refine u_pure 3 rfl rfl rfl (L_move rfl) ?_
    refine u_pure 4 rfl rfl rfl (l_field rfl fo_29_1) ?_
    refine u_any 2 [5, 9] ⟨?_, ?_, ?_, trivial⟩
    · refine u_op 2 rfl rfl (EOp_light rfl (by decide) (L_load rfl (by first | exact d_bp ty_24 | exact ld_rp ty_24 rfl | exact d_ep ty_24)) ?_)
      refine u_any 5 [9] ⟨?_, ?_, trivial⟩
      · refine u_op 5 rfl rfl (EOp_light rfl (by decide) (L_load rfl (by first | exact d_bp ty_24 | exact ld_rp ty_24 rfl | exact d_ep ty_24)) ?_)
        refine u_pure 6 rfl rfl rfl (l_len rfl sl_24) ?_
        refine u_any 7 [9] ⟨?_, ?_, trivial⟩
        · first
            | (refine u_op 7 rfl rfl (EOp_call1 rfl rfl (by decide) rfl ca_121 (c_spec_l12Tail_za l i2 h2 Y hs Y.tail.length hb hi2 (by omega)) (by refine cons_eq ?_ (cons_eq ?_ (rfl)) <;> first | (refine lend_whole rfl ?_; first | assumption | exact ints_len _ | exact pairs_len _ | exact quads_len _ | exact quints_len _ | exact bools_len _ | (simp [ints_len, bools_len, pairs_len, quads_len, quints_len, part_len, *]; done) | (simp [ints_len, bools_len, pairs_len, quads_len, quints_len]; omega) | rfl) | (refine agg_eq ?_; repeat' (first | (refine lendC_whole rfl ?_; first | assumption | exact ints_len _ | exact pairs_len _ | exact quads_len _ | exact quints_len _ | exact bools_len _ | (simp [ints_len, bools_len, pairs_len, quads_len, quints_len, part_len, *]; done) | (simp [ints_len, bools_len, pairs_len, quads_len, quints_len]; omega) | rfl) | refine cons_eq ?_ ?_ | rfl)) | rfl | simp [E.lend, E.lendC, E.ev, E.cv, E.get, E.fill', E.fill, AV.sh, AC.sh, Res.sh, ints_len, *]) ?_))
            | (refine u_op 7 rfl rfl (EOp_call1 rfl rfl (by decide) rfl ca_121 (c_spec_l12Tail_zb l i2 h2 Y hs Y.tail.length hb hi2 (by omega)) (by refine cons_eq ?_ (cons_eq ?_ (rfl)) <;> first | (refine lend_whole rfl ?_; first | assumption | exact ints_len _ | exact pairs_len _ | exact quads_len _ | exact quints_len _ | exact bools_len _ | (simp [ints_len, bools_len, pairs_len, quads_len, quints_len, part_len, *]; done) | (simp [ints_len, bools_len, pairs_len, quads_len, quints_len]; omega) | rfl) | (refine agg_eq ?_; repeat' (first | (refine lendC_whole rfl ?_; first | assumption | exact ints_len _ | exact pairs_len _ | exact quads_len _ | exact quints_len _ | exact bools_len _ | (simp [ints_len, bools_len, pairs_len, quads_len, quints_len, part_len, *]; done) | (simp [ints_len, bools_len, pairs_len, quads_len, quints_len]; omega) | rfl) | refine cons_eq ?_ ?_ | rfl)) | rfl | simp [E.lend, E.lendC, E.ev, E.cv, E.get, E.fill', E.fill, AV.sh, AC.sh, Res.sh, ints_len, *]) ?_))
          rintro r S ⟨ys, i4, h4, ⟨rfl, rfl⟩, hi4, hys⟩
          refine u_any 8 [9] ⟨?_, ?_, trivial⟩
          · refine u_call 8 rfl rfl rfl rfl rfl ca_42 (c_spec_NewMap Y.c.vals ys (by omega)) ?_
            rintro r S ⟨rfl, rfl⟩
            refine u_any 9 [] ⟨?_, trivial⟩
            refine u_op 9 rfl rfl (EOp_alloc rfl rfl (by decide) za_29 ?_)
            refine u_any 10 [] ⟨?_, trivial⟩
            refine u_op 10 rfl rfl (EOp_store rfl rfl rfl (by first | exact s_bp ty_29 | exact s_ep ty_29) ?_)
            refine u_done ?_
            skip
            first
              | (refine ⟨[0, 1, 2, 3, 4, 5, 6, 7, 8, 11, 12, 13, 14, 9], rfl, (ys, i4, h4), ?_, rfl, ⟨.inr rfl, trivial⟩, ⟨.inr rfl, .inr rfl, .inr rfl, .inr rfl, .inr rfl, .inr rfl, trivial⟩⟩)
              | (refine ⟨[0, 1, 2, 3, 4, 5, 6, 7, 8, 11, 12, 13, 14, 10], rfl, (ys, i4, h4), ?_, rfl, ⟨.inr rfl, trivial⟩, ⟨.inr rfl, .inr rfl, .inr rfl, .inr rfl, .inr rfl, .inr rfl, trivial⟩⟩)
              | (refine ⟨[0, 1, 2, 3, 4, 5, 6, 7, 8, 10, 11, 12, 13, 14], rfl, (ys, i4, h4), ?_, rfl, ⟨.inr rfl, trivial⟩, ⟨.inr rfl, .inr rfl, .inr rfl, .inr rfl, .inr rfl, .inr rfl, trivial⟩⟩)
            exact ⟨hi4, hys⟩
          · refine u_op 9 rfl rfl (EOp_alloc rfl rfl (by decide) za_29 ?_)
            refine u_any 8 [] ⟨?_, trivial⟩
            refine u_call 8 rfl rfl rfl rfl rfl ca_42 (c_spec_NewMap Y.c.vals ys (by omega)) ?_
            rintro r S ⟨rfl, rfl⟩
            refine u_any 10 [] ⟨?_, trivial⟩
            refine u_op 10 rfl rfl (EOp_store rfl rfl rfl (by first | exact s_bp ty_29 | exact s_ep ty_29) ?_)
            refine u_done ?_
            skip
            first
              | (refine ⟨[0, 1, 2, 3, 4, 5, 6, 7, 8, 11, 12, 13, 14, 9], rfl, (ys, i4, h4), ?_, rfl, ⟨.inr rfl, trivial⟩, ⟨.inr rfl, .inr rfl, .inr rfl, .inr rfl, .inr rfl, .inr rfl, trivial⟩⟩)
              | (refine ⟨[0, 1, 2, 3, 4, 5, 6, 7, 8, 11, 12, 13, 14, 10], rfl, (ys, i4, h4), ?_, rfl, ⟨.inr rfl, trivial⟩, ⟨.inr rfl, .inr rfl, .inr rfl, .inr rfl, .inr rfl, .inr rfl, trivial⟩⟩)
              | (refine ⟨[0, 1, 2, 3, 4, 5, 6, 7, 8, 10, 11, 12, 13, 14], rfl, (ys, i4, h4), ?_, rfl, ⟨.inr rfl, trivial⟩, ⟨.inr rfl, .inr rfl, .inr rfl, .inr rfl, .inr rfl, .inr rfl, trivial⟩⟩)
            exact ⟨hi4, hys⟩
        · refine u_op 9 rfl rfl (EOp_alloc rfl rfl (by decide) za_29 ?_)
          refine u_any 7 [] ⟨?_, trivial⟩
          first
            | (refine u_op 7 rfl rfl (EOp_call1 rfl rfl (by decide) rfl ca_121 (c_spec_l12Tail_za l i2 h2 Y hs Y.tail.length hb hi2 (by omega)) (by refine cons_eq ?_ (cons_eq ?_ (rfl)) <;> first | (refine lend_whole rfl ?_; first | assumption | exact ints_len _ | exact pairs_len _ | exact quads_len _ | exact quints_len _ | exact bools_len _ | (simp [ints_len, bools_len, pairs_len, quads_len, quints_len, part_len, *]; done) | (simp [ints_len, bools_len, pairs_len, quads_len, quints_len]; omega) | rfl) | (refine agg_eq ?_; repeat' (first | (refine lendC_whole rfl ?_; first | assumption | exact ints_len _ | exact pairs_len _ | exact quads_len _ | exact quints_len _ | exact bools_len _ | (simp [ints_len, bools_len, pairs_len, quads_len, quints_len, part_len, *]; done) | (simp [ints_len, bools_len, pairs_len, quads_len, quints_len]; omega) | rfl) | refine cons_eq ?_ ?_ | rfl)) | rfl | simp [E.lend, E.lendC, E.ev, E.cv, E.get, E.fill', E.fill, AV.sh, AC.sh, Res.sh, ints_len, *]) ?_))
            | (refine u_op 7 rfl rfl (EOp_call1 rfl rfl (by decide) rfl ca_121 (c_spec_l12Tail_zb l i2 h2 Y hs Y.tail.length hb hi2 (by omega)) (by refine cons_eq ?_ (cons_eq ?_ (rfl)) <;> first | (refine lend_whole rfl ?_; first | assumption | exact ints_len _ | exact pairs_len _ | exact quads_len _ | exact quints_len _ | exact bools_len _ | (simp [ints_len, bools_len, pairs_len, quads_len, quints_len, part_len, *]; done) | (simp [ints_len, bools_len, pairs_len, quads_len, quints_len]; omega) | rfl) | (refine agg_eq ?_; repeat' (first | (refine lendC_whole rfl ?_; first | assumption | exact ints_len _ | exact pairs_len _ | exact quads_len _ | exact quints_len _ | exact bools_len _ | (simp [ints_len, bools_len, pairs_len, quads_len, quints_len, part_len, *]; done) | (simp [ints_len, bools_len, pairs_len, quads_len, quints_len]; omega) | rfl) | refine cons_eq ?_ ?_ | rfl)) | rfl | simp [E.lend, E.lendC, E.ev, E.cv, E.get, E.fill', E.fill, AV.sh, AC.sh, Res.sh, ints_len, *]) ?_))
          rintro r S ⟨ys, i4, h4, ⟨rfl, rfl⟩, hi4, hys⟩
          refine u_any 8 [] ⟨?_, trivial⟩
          refine u_call 8 rfl rfl rfl rfl rfl ca_42 (c_spec_NewMap Y.c.vals ys (by omega)) ?_
          rintro r S ⟨rfl, rfl⟩
          refine u_any 10 [] ⟨?_, trivial⟩
          refine u_op 10 rfl rfl (EOp_store rfl rfl rfl (by first | exact s_bp ty_29 | exact s_ep ty_29) ?_)
          refine u_done ?_
          skip
          first
            | (refine ⟨[0, 1, 2, 3, 4, 5, 6, 7, 8, 11, 12, 13, 14, 9], rfl, (ys, i4, h4), ?_, rfl, ⟨.inr rfl, trivial⟩, ⟨.inr rfl, .inr rfl, .inr rfl, .inr rfl, .inr rfl, .inr rfl, trivial⟩⟩)
            | (refine ⟨[0, 1, 2, 3, 4, 5, 6, 7, 8, 11, 12, 13, 14, 10], rfl, (ys, i4, h4), ?_, rfl, ⟨.inr rfl, trivial⟩, ⟨.inr rfl, .inr rfl, .inr rfl, .inr rfl, .inr rfl, .inr rfl, trivial⟩⟩)
            | (refine ⟨[0, 1, 2, 3, 4, 5, 6, 7, 8, 10, 11, 12, 13, 14], rfl, (ys, i4, h4), ?_, rfl, ⟨.inr rfl, trivial⟩, ⟨.inr rfl, .inr rfl, .inr rfl, .inr rfl, .inr rfl, .inr rfl, trivial⟩⟩)
          exact ⟨hi4, hys⟩
      · refine u_op 9 rfl rfl (EOp_alloc rfl rfl (by decide) za_29 ?_)
        refine u_any 5 [] ⟨?_, trivial⟩
        refine u_op 5 rfl rfl (EOp_light rfl (by decide) (L_load rfl (by first | exact d_bp ty_24 | exact ld_rp ty_24 rfl | exact d_ep ty_24)) ?_)
        refine u_pure 6 rfl rfl rfl (l_len rfl sl_24) ?_
        refine u_any 7 [] ⟨?_, trivial⟩
        first
          | (refine u_op 7 rfl rfl (EOp_call1 rfl rfl (by decide) rfl ca_121 (c_spec_l12Tail_za l i2 h2 Y hs Y.tail.length hb hi2 (by omega)) (by refine cons_eq ?_ (cons_eq ?_ (rfl)) <;> first | (refine lend_whole rfl ?_; first | assumption | exact ints_len _ | exact pairs_len _ | exact quads_len _ | exact quints_len _ | exact bools_len _ | (simp [ints_len, bools_len, pairs_len, quads_len, quints_len, part_len, *]; done) | (simp [ints_len, bools_len, pairs_len, quads_len, quints_len]; omega) | rfl) | (refine agg_eq ?_; repeat' (first | (refine lendC_whole rfl ?_; first | assumption | exact ints_len _ | exact pairs_len _ | exact quads_len _ | exact quints_len _ | exact bools_len _ | (simp [ints_len, bools_len, pairs_len, quads_len, quints_len, part_len, *]; done) | (simp [ints_len, bools_len, pairs_len, quads_len, quints_len]; omega) | rfl) | refine cons_eq ?_ ?_ | rfl)) | rfl | simp [E.lend, E.lendC, E.ev, E.cv, E.get, E.fill', E.fill, AV.sh, AC.sh, Res.sh, ints_len, *]) ?_))
          | (refine u_op 7 rfl rfl (EOp_call1 rfl rfl (by decide) rfl ca_121 (c_spec_l12Tail_zb l i2 h2 Y hs Y.tail.length hb hi2 (by omega)) (by refine cons_eq ?_ (cons_eq ?_ (rfl)) <;> first | (refine lend_whole rfl ?_; first | assumption | exact ints_len _ | exact pairs_len _ | exact quads_len _ | exact quints_len _ | exact bools_len _ | (simp [ints_len, bools_len, pairs_len, quads_len, quints_len, part_len, *]; done) | (simp [ints_len, bools_len, pairs_len, quads_len, quints_len]; omega) | rfl) | (refine agg_eq ?_; repeat' (first | (refine lendC_whole rfl ?_; first | assumption | exact ints_len _ | exact pairs_len _ | exact quads_len _ | exact quints_len _ | exact bools_len _ | (simp [ints_len, bools_len, pairs_len, quads_len, quints_len, part_len, *]; done) | (simp [ints_len, bools_len, pairs_len, quads_len, quints_len]; omega) | rfl) | refine cons_eq ?_ ?_ | rfl)) | rfl | simp [E.lend, E.lendC, E.ev, E.cv, E.get, E.fill', E.fill, AV.sh, AC.sh, Res.sh, ints_len, *]) ?_))
        rintro r S ⟨ys, i4, h4, ⟨rfl, rfl⟩, hi4, hys⟩
        refine u_any 8 [] ⟨?_, trivial⟩
        refine u_call 8 rfl rfl rfl rfl rfl ca_42 (c_spec_NewMap Y.c.vals ys (by omega)) ?_
        rintro r S ⟨rfl, rfl⟩
        refine u_any 10 [] ⟨?_, trivial⟩
        refine u_op 10 rfl rfl (EOp_store rfl rfl rfl (by first | exact s_bp ty_29 | exact s_ep ty_29) ?_)
        refine u_done ?_
        skip
        first
          | (refine ⟨[0, 1, 2, 3, 4, 5, 6, 7, 8, 11, 12, 13, 14, 9], rfl, (ys, i4, h4), ?_, rfl, ⟨.inr rfl, trivial⟩, ⟨.inr rfl, .inr rfl, .inr rfl, .inr rfl, .inr rfl, .inr rfl, trivial⟩⟩)
          | (refine ⟨[0, 1, 2, 3, 4, 5, 6, 7, 8, 11, 12, 13, 14, 10], rfl, (ys, i4, h4), ?_, rfl, ⟨.inr rfl, trivial⟩, ⟨.inr rfl, .inr rfl, .inr rfl, .inr rfl, .inr rfl, .inr rfl, trivial⟩⟩)
          | (refine ⟨[0, 1, 2, 3, 4, 5, 6, 7, 8, 10, 11, 12, 13, 14], rfl, (ys, i4, h4), ?_, rfl, ⟨.inr rfl, trivial⟩, ⟨.inr rfl, .inr rfl, .inr rfl, .inr rfl, .inr rfl, .inr rfl, trivial⟩⟩)
        exact ⟨hi4, hys⟩
    · refine u_op 5 rfl rfl (EOp_light rfl (by decide) (L_load rfl (by first | exact d_bp ty_24 | exact ld_rp ty_24 rfl | exact d_ep ty_24)) ?_)
      refine u_pure 6 rfl rfl rfl (l_len rfl sl_24) ?_
      refine u_any 2 [7, 9] ⟨?_, ?_, ?_, trivial⟩
      · refine u_op 2 rfl rfl (EOp_light rfl (by decide) (L_load rfl (by first | exact d_bp ty_24 | exact ld_rp ty_24 rfl | exact d_ep ty_24)) ?_)
        refine u_any 7 [9] ⟨?_, ?_, trivial⟩
        · first
            | (refine u_op 7 rfl rfl (EOp_call1 rfl rfl (by decide) rfl ca_121 (c_spec_l12Tail_za l i2 h2 Y hs Y.tail.length hb hi2 (by omega)) (by refine cons_eq ?_ (cons_eq ?_ (rfl)) <;> first | (refine lend_whole rfl ?_; first | assumption | exact ints_len _ | exact pairs_len _ | exact quads_len _ | exact quints_len _ | exact bools_len _ | (simp [ints_len, bools_len, pairs_len, quads_len, quints_len, part_len, *]; done) | (simp [ints_len, bools_len, pairs_len, quads_len, quints_len]; omega) | rfl) | (refine agg_eq ?_; repeat' (first | (refine lendC_whole rfl ?_; first | assumption | exact ints_len _ | exact pairs_len _ | exact quads_len _ | exact quints_len _ | exact bools_len _ | (simp [ints_len, bools_len, pairs_len, quads_len, quints_len, part_len, *]; done) | (simp [ints_len, bools_len, pairs_len, quads_len, quints_len]; omega) | rfl) | refine cons_eq ?_ ?_ | rfl)) | rfl | simp [E.lend, E.lendC, E.ev, E.cv, E.get, E.fill', E.fill, AV.sh, AC.sh, Res.sh, ints_len, *]) ?_))
            | (refine u_op 7 rfl rfl (EOp_call1 rfl rfl (by decide) rfl ca_121 (c_spec_l12Tail_zb l i2 h2 Y hs Y.tail.length hb hi2 (by omega)) (by refine cons_eq ?_ (cons_eq ?_ (rfl)) <;> first | (refine lend_whole rfl ?_; first | assumption | exact ints_len _ | exact pairs_len _ | exact quads_len _ | exact quints_len _ | exact bools_len _ | (simp [ints_len, bools_len, pairs_len, quads_len, quints_len, part_len, *]; done) | (simp [ints_len, bools_len, pairs_len, quads_len, quints_len]; omega) | rfl) | (refine agg_eq ?_; repeat' (first | (refine lendC_whole rfl ?_; first | assumption | exact ints_len _ | exact pairs_len _ | exact quads_len _ | exact quints_len _ | exact bools_len _ | (simp [ints_len, bools_len, pairs_len, quads_len, quints_len, part_len, *]; done) | (simp [ints_len, bools_len, pairs_len, quads_len, quints_len]; omega) | rfl) | refine cons_eq ?_ ?_ | rfl)) | rfl | simp [E.lend, E.lendC, E.ev, E.cv, E.get, E.fill', E.fill, AV.sh, AC.sh, Res.sh, ints_len, *]) ?_))
          rintro r S ⟨ys, i4, h4, ⟨rfl, rfl⟩, hi4, hys⟩
          refine u_any 8 [9] ⟨?_, ?_, trivial⟩
          · refine u_call 8 rfl rfl rfl rfl rfl ca_42 (c_spec_NewMap Y.c.vals ys (by omega)) ?_
            rintro r S ⟨rfl, rfl⟩
            refine u_any 9 [] ⟨?_, trivial⟩
            refine u_op 9 rfl rfl (EOp_alloc rfl rfl (by decide) za_29 ?_)
            refine u_any 10 [] ⟨?_, trivial⟩
            refine u_op 10 rfl rfl (EOp_store rfl rfl rfl (by first | exact s_bp ty_29 | exact s_ep ty_29) ?_)
            refine u_done ?_
            skip
            first
              | (refine ⟨[0, 1, 2, 3, 4, 5, 6, 7, 8, 11, 12, 13, 14, 9], rfl, (ys, i4, h4), ?_, rfl, ⟨.inr rfl, trivial⟩, ⟨.inr rfl, .inr rfl, .inr rfl, .inr rfl, .inr rfl, .inr rfl, trivial⟩⟩)
              | (refine ⟨[0, 1, 2, 3, 4, 5, 6, 7, 8, 11, 12, 13, 14, 10], rfl, (ys, i4, h4), ?_, rfl, ⟨.inr rfl, trivial⟩, ⟨.inr rfl, .inr rfl, .inr rfl, .inr rfl, .inr rfl, .inr rfl, trivial⟩⟩)
              | (refine ⟨[0, 1, 2, 3, 4, 5, 6, 7, 8, 10, 11, 12, 13, 14], rfl, (ys, i4, h4), ?_, rfl, ⟨.inr rfl, trivial⟩, ⟨.inr rfl, .inr rfl, .inr rfl, .inr rfl, .inr rfl, .inr rfl, trivial⟩⟩)
            exact ⟨hi4, hys⟩
          · refine u_op 9 rfl rfl (EOp_alloc rfl rfl (by decide) za_29 ?_)
            refine u_any 8 [] ⟨?_, trivial⟩
            refine u_call 8 rfl rfl rfl rfl rfl ca_42 (c_spec_NewMap Y.c.vals ys (by omega)) ?_
            rintro r S ⟨rfl, rfl⟩
            refine u_any 10 [] ⟨?_, trivial⟩
            refine u_op 10 rfl rfl (EOp_store rfl rfl rfl (by first | exact s_bp ty_29 | exact s_ep ty_29) ?_)
            refine u_done ?_
            skip
            first
              | (refine ⟨[0, 1, 2, 3, 4, 5, 6, 7, 8, 11, 12, 13, 14, 9], rfl, (ys, i4, h4), ?_, rfl, ⟨.inr rfl, trivial⟩, ⟨.inr rfl, .inr rfl, .inr rfl, .inr rfl, .inr rfl, .inr rfl, trivial⟩⟩)
              | (refine ⟨[0, 1, 2, 3, 4, 5, 6, 7, 8, 11, 12, 13, 14, 10], rfl, (ys, i4, h4), ?_, rfl, ⟨.inr rfl, trivial⟩, ⟨.inr rfl, .inr rfl, .inr rfl, .inr rfl, .inr rfl, .inr rfl, trivial⟩⟩)
              | (refine ⟨[0, 1, 2, 3, 4, 5, 6, 7, 8, 10, 11, 12, 13, 14], rfl, (ys, i4, h4), ?_, rfl, ⟨.inr rfl, trivial⟩, ⟨.inr rfl, .inr rfl, .inr rfl, .inr rfl, .inr rfl, .inr rfl, trivial⟩⟩)
            exact ⟨hi4, hys⟩
        · refine u_op 9 rfl rfl (EOp_alloc rfl rfl (by decide) za_29 ?_)
          refine u_any 7 [] ⟨?_, trivial⟩
          first
            | (refine u_op 7 rfl rfl (EOp_call1 rfl rfl (by decide) rfl ca_121 (c_spec_l12Tail_za l i2 h2 Y hs Y.tail.length hb hi2 (by omega)) (by refine cons_eq ?_ (cons_eq ?_ (rfl)) <;> first | (refine lend_whole rfl ?_; first | assumption | exact ints_len _ | exact pairs_len _ | exact quads_len _ | exact quints_len _ | exact bools_len _ | (simp [ints_len, bools_len, pairs_len, quads_len, quints_len, part_len, *]; done) | (simp [ints_len, bools_len, pairs_len, quads_len, quints_len]; omega) | rfl) | (refine agg_eq ?_; repeat' (first | (refine lendC_whole rfl ?_; first | assumption | exact ints_len _ | exact pairs_len _ | exact quads_len _ | exact quints_len _ | exact bools_len _ | (simp [ints_len, bools_len, pairs_len, quads_len, quints_len, part_len, *]; done) | (simp [ints_len, bools_len, pairs_len, quads_len, quints_len]; omega) | rfl) | refine cons_eq ?_ ?_ | rfl)) | rfl | simp [E.lend, E.lendC, E.ev, E.cv, E.get, E.fill', E.fill, AV.sh, AC.sh, Res.sh, ints_len, *]) ?_))
            | (refine u_op 7 rfl rfl (EOp_call1 rfl rfl (by decide) rfl ca_121 (c_spec_l12Tail_zb l i2 h2 Y hs Y.tail.length hb hi2 (by omega)) (by refine cons_eq ?_ (cons_eq ?_ (rfl)) <;> first | (refine lend_whole rfl ?_; first | assumption | exact ints_len _ | exact pairs_len _ | exact quads_len _ | exact quints_len _ | exact bools_len _ | (simp [ints_len, bools_len, pairs_len, quads_len, quints_len, part_len, *]; done) | (simp [ints_len, bools_len, pairs_len, quads_len, quints_len]; omega) | rfl) | (refine agg_eq ?_; repeat' (first | (refine lendC_whole rfl ?_; first | assumption | exact ints_len _ | exact pairs_len _ | exact quads_len _ | exact quints_len _ | exact bools_len _ | (simp [ints_len, bools_len, pairs_len, quads_len, quints_len, part_len, *]; done) | (simp [ints_len, bools_len, pairs_len, quads_len, quints_len]; omega) | rfl) | refine cons_eq ?_ ?_ | rfl)) | rfl | simp [E.lend, E.lendC, E.ev, E.cv, E.get, E.fill', E.fill, AV.sh, AC.sh, Res.sh, ints_len, *]) ?_))
          rintro r S ⟨ys, i4, h4, ⟨rfl, rfl⟩, hi4, hys⟩
          refine u_any 8 [] ⟨?_, trivial⟩
          refine u_call 8 rfl rfl rfl rfl rfl ca_42 (c_spec_NewMap Y.c.vals ys (by omega)) ?_
          rintro r S ⟨rfl, rfl⟩
          refine u_any 10 [] ⟨?_, trivial⟩
          refine u_op 10 rfl rfl (EOp_store rfl rfl rfl (by first | exact s_bp ty_29 | exact s_ep ty_29) ?_)
          refine u_done ?_
          skip
          first
            | (refine ⟨[0, 1, 2, 3, 4, 5, 6, 7, 8, 11, 12, 13, 14, 9], rfl, (ys, i4, h4), ?_, rfl, ⟨.inr rfl, trivial⟩, ⟨.inr rfl, .inr rfl, .inr rfl, .inr rfl, .inr rfl, .inr rfl, trivial⟩⟩)
            | (refine ⟨[0, 1, 2, 3, 4, 5, 6, 7, 8, 11, 12, 13, 14, 10], rfl, (ys, i4, h4), ?_, rfl, ⟨.inr rfl, trivial⟩, ⟨.inr rfl, .inr rfl, .inr rfl, .inr rfl, .inr rfl, .inr rfl, trivial⟩⟩)
            | (refine ⟨[0, 1, 2, 3, 4, 5, 6, 7, 8, 10, 11, 12, 13, 14], rfl, (ys, i4, h4), ?_, rfl, ⟨.inr rfl, trivial⟩, ⟨.inr rfl, .inr rfl, .inr rfl, .inr rfl, .inr rfl, .inr rfl, trivial⟩⟩)
          exact ⟨hi4, hys⟩
      · first
          | (refine u_op 7 rfl rfl (EOp_call1 rfl rfl (by decide) rfl ca_121 (c_spec_l12Tail_za l i2 h2 Y hs Y.tail.length hb hi2 (by omega)) (by refine cons_eq ?_ (cons_eq ?_ (rfl)) <;> first | (refine lend_whole rfl ?_; first | assumption | exact ints_len _ | exact pairs_len _ | exact quads_len _ | exact quints_len _ | exact bools_len _ | (simp [ints_len, bools_len, pairs_len, quads_len, quints_len, part_len, *]; done) | (simp [ints_len, bools_len, pairs_len, quads_len, quints_len]; omega) | rfl) | (refine agg_eq ?_; repeat' (first | (refine lendC_whole rfl ?_; first | assumption | exact ints_len _ | exact pairs_len _ | exact quads_len _ | exact quints_len _ | exact bools_len _ | (simp [ints_len, bools_len, pairs_len, quads_len, quints_len, part_len, *]; done) | (simp [ints_len, bools_len, pairs_len, quads_len, quints_len]; omega) | rfl) | refine cons_eq ?_ ?_ | rfl)) | rfl | simp [E.lend, E.lendC, E.ev, E.cv, E.get, E.fill', E.fill, AV.sh, AC.sh, Res.sh, ints_len, *]) ?_))
          | (refine u_op 7 rfl rfl (EOp_call1 rfl rfl (by decide) rfl ca_121 (c_spec_l12Tail_zb l i2 h2 Y hs Y.tail.length hb hi2 (by omega)) (by refine cons_eq ?_ (cons_eq ?_ (rfl)) <;> first | (refine lend_whole rfl ?_; first | assumption | exact ints_len _ | exact pairs_len _ | exact quads_len _ | exact quints_len _ | exact bools_len _ | (simp [ints_len, bools_len, pairs_len, quads_len, quints_len, part_len, *]; done) | (simp [ints_len, bools_len, pairs_len, quads_len, quints_len]; omega) | rfl) | (refine agg_eq ?_; repeat' (first | (refine lendC_whole rfl ?_; first | assumption | exact ints_len _ | exact pairs_len _ | exact quads_len _ | exact quints_len _ | exact bools_len _ | (simp [ints_len, bools_len, pairs_len, quads_len, quints_len, part_len, *]; done) | (simp [ints_len, bools_len, pairs_len, quads_len, quints_len]; omega) | rfl) | refine cons_eq ?_ ?_ | rfl)) | rfl | simp [E.lend, E.lendC, E.ev, E.cv, E.get, E.fill', E.fill, AV.sh, AC.sh, Res.sh, ints_len, *]) ?_))
        rintro r S ⟨ys, i4, h4, ⟨rfl, rfl⟩, hi4, hys⟩
        refine u_any 2 [9] ⟨?_, ?_, trivial⟩
        · refine u_op 2 rfl rfl (EOp_light rfl (by decide) (L_load rfl (by first | exact d_bp ty_24 | exact ld_rp ty_24 rfl | exact d_ep ty_24)) ?_)
          refine u_any 8 [9] ⟨?_, ?_, trivial⟩
          · refine u_call 8 rfl rfl rfl rfl rfl ca_42 (c_spec_NewMap Y.c.vals ys (by omega)) ?_
            rintro r S ⟨rfl, rfl⟩
            refine u_any 9 [] ⟨?_, trivial⟩
            refine u_op 9 rfl rfl (EOp_alloc rfl rfl (by decide) za_29 ?_)
            refine u_any 10 [] ⟨?_, trivial⟩
            refine u_op 10 rfl rfl (EOp_store rfl rfl rfl (by first | exact s_bp ty_29 | exact s_ep ty_29) ?_)
            refine u_done ?_
            skip
            first
              | (refine ⟨[0, 1, 2, 3, 4, 5, 6, 7, 8, 11, 12, 13, 14, 9], rfl, (ys, i4, h4), ?_, rfl, ⟨.inr rfl, trivial⟩, ⟨.inr rfl, .inr rfl, .inr rfl, .inr rfl, .inr rfl, .inr rfl, trivial⟩⟩)
              | (refine ⟨[0, 1, 2, 3, 4, 5, 6, 7, 8, 11, 12, 13, 14, 10], rfl, (ys, i4, h4), ?_, rfl, ⟨.inr rfl, trivial⟩, ⟨.inr rfl, .inr rfl, .inr rfl, .inr rfl, .inr rfl, .inr rfl, trivial⟩⟩)
              | (refine ⟨[0, 1, 2, 3, 4, 5, 6, 7, 8, 10, 11, 12, 13, 14], rfl, (ys, i4, h4), ?_, rfl, ⟨.inr rfl, trivial⟩, ⟨.inr rfl, .inr rfl, .inr rfl, .inr rfl, .inr rfl, .inr rfl, trivial⟩⟩)
            exact ⟨hi4, hys⟩
          · refine u_op 9 rfl rfl (EOp_alloc rfl rfl (by decide) za_29 ?_)
            refine u_any 8 [] ⟨?_, trivial⟩
            refine u_call 8 rfl rfl rfl rfl rfl ca_42 (c_spec_NewMap Y.c.vals ys (by omega)) ?_
            rintro r S ⟨rfl, rfl⟩
            refine u_any 10 [] ⟨?_, trivial⟩
            refine u_op 10 rfl rfl (EOp_store rfl rfl rfl (by first | exact s_bp ty_29 | exact s_ep ty_29) ?_)
            refine u_done ?_
            skip
            first
              | (refine ⟨[0, 1, 2, 3, 4, 5, 6, 7, 8, 11, 12, 13, 14, 9], rfl, (ys, i4, h4), ?_, rfl, ⟨.inr rfl, trivial⟩, ⟨.inr rfl, .inr rfl, .inr rfl, .inr rfl, .inr rfl, .inr rfl, trivial⟩⟩)
              | (refine ⟨[0, 1, 2, 3, 4, 5, 6, 7, 8, 11, 12, 13, 14, 10], rfl, (ys, i4, h4), ?_, rfl, ⟨.inr rfl, trivial⟩, ⟨.inr rfl, .inr rfl, .inr rfl, .inr rfl, .inr rfl, .inr rfl, trivial⟩⟩)
              | (refine ⟨[0, 1, 2, 3, 4, 5, 6, 7, 8, 10, 11, 12, 13, 14], rfl, (ys, i4, h4), ?_, rfl, ⟨.inr rfl, trivial⟩, ⟨.inr rfl, .inr rfl, .inr rfl, .inr rfl, .inr rfl, .inr rfl, trivial⟩⟩)
            exact ⟨hi4, hys⟩
        · refine u_op 9 rfl rfl (EOp_alloc rfl rfl (by decide) za_29 ?_)
          refine u_any 2 [] ⟨?_, trivial⟩
          refine u_op 2 rfl rfl (EOp_light rfl (by decide) (L_load rfl (by first | exact d_bp ty_24 | exact ld_rp ty_24 rfl | exact d_ep ty_24)) ?_)
          refine u_any 8 [] ⟨?_, trivial⟩
          refine u_call 8 rfl rfl rfl rfl rfl ca_42 (c_spec_NewMap Y.c.vals ys (by omega)) ?_
          rintro r S ⟨rfl, rfl⟩
          refine u_any 10 [] ⟨?_, trivial⟩
          refine u_op 10 rfl rfl (EOp_store rfl rfl rfl (by first | exact s_bp ty_29 | exact s_ep ty_29) ?_)
          refine u_done ?_
          skip
          first
            | (refine ⟨[0, 1, 2, 3, 4, 5, 6, 7, 8, 11, 12, 13, 14, 9], rfl, (ys, i4, h4), ?_, rfl, ⟨.inr rfl, trivial⟩, ⟨.inr rfl, .inr rfl, .inr rfl, .inr rfl, .inr rfl, .inr rfl, trivial⟩⟩)
            | (refine ⟨[0, 1, 2, 3, 4, 5, 6, 7, 8, 11, 12, 13, 14, 10], rfl, (ys, i4, h4), ?_, rfl, ⟨.inr rfl, trivial⟩, ⟨.inr rfl, .inr rfl, .inr rfl, .inr rfl, .inr rfl, .inr rfl, trivial⟩⟩)
            | (refine ⟨[0, 1, 2, 3, 4, 5, 6, 7, 8, 10, 11, 12, 13, 14], rfl, (ys, i4, h4), ?_, rfl, ⟨.inr rfl, trivial⟩, ⟨.inr rfl, .inr rfl, .inr rfl, .inr rfl, .inr rfl, .inr rfl, trivial⟩⟩)
          exact ⟨hi4, hys⟩
      · refine u_op 9 rfl rfl (EOp_alloc rfl rfl (by decide) za_29 ?_)
        refine u_any 2 [7] ⟨?_, ?_, trivial⟩
        · refine u_op 2 rfl rfl (EOp_light rfl (by decide) (L_load rfl (by first | exact d_bp ty_24 | exact ld_rp ty_24 rfl | exact d_ep ty_24)) ?_)
          refine u_any 7 [] ⟨?_, trivial⟩
          first
            | (refine u_op 7 rfl rfl (EOp_call1 rfl rfl (by decide) rfl ca_121 (c_spec_l12Tail_za l i2 h2 Y hs Y.tail.length hb hi2 (by omega)) (by refine cons_eq ?_ (cons_eq ?_ (rfl)) <;> first | (refine lend_whole rfl ?_; first | assumption | exact ints_len _ | exact pairs_len _ | exact quads_len _ | exact quints_len _ | exact bools_len _ | (simp [ints_len, bools_len, pairs_len, quads_len, quints_len, part_len, *]; done) | (simp [ints_len, bools_len, pairs_len, quads_len, quints_len]; omega) | rfl) | (refine agg_eq ?_; repeat' (first | (refine lendC_whole rfl ?_; first | assumption | exact ints_len _ | exact pairs_len _ | exact quads_len _ | exact quints_len _ | exact bools_len _ | (simp [ints_len, bools_len, pairs_len, quads_len, quints_len, part_len, *]; done) | (simp [ints_len, bools_len, pairs_len, quads_len, quints_len]; omega) | rfl) | refine cons_eq ?_ ?_ | rfl)) | rfl | simp [E.lend, E.lendC, E.ev, E.cv, E.get, E.fill', E.fill, AV.sh, AC.sh, Res.sh, ints_len, *]) ?_))
            | (refine u_op 7 rfl rfl (EOp_call1 rfl rfl (by decide) rfl ca_121 (c_spec_l12Tail_zb l i2 h2 Y hs Y.tail.length hb hi2 (by omega)) (by refine cons_eq ?_ (cons_eq ?_ (rfl)) <;> first | (refine lend_whole rfl ?_; first | assumption | exact ints_len _ | exact pairs_len _ | exact quads_len _ | exact quints_len _ | exact bools_len _ | (simp [ints_len, bools_len, pairs_len, quads_len, quints_len, part_len, *]; done) | (simp [ints_len, bools_len, pairs_len, quads_len, quints_len]; omega) | rfl) | (refine agg_eq ?_; repeat' (first | (refine lendC_whole rfl ?_; first | assumption | exact ints_len _ | exact pairs_len _ | exact quads_len _ | exact quints_len _ | exact bools_len _ | (simp [ints_len, bools_len, pairs_len, quads_len, quints_len, part_len, *]; done) | (simp [ints_len, bools_len, pairs_len, quads_len, quints_len]; omega) | rfl) | refine cons_eq ?_ ?_ | rfl)) | rfl | simp [E.lend, E.lendC, E.ev, E.cv, E.get, E.fill', E.fill, AV.sh, AC.sh, Res.sh, ints_len, *]) ?_))
          rintro r S ⟨ys, i4, h4, ⟨rfl, rfl⟩, hi4, hys⟩
          refine u_any 8 [] ⟨?_, trivial⟩
          refine u_call 8 rfl rfl rfl rfl rfl ca_42 (c_spec_NewMap Y.c.vals ys (by omega)) ?_
          rintro r S ⟨rfl, rfl⟩
          refine u_any 10 [] ⟨?_, trivial⟩
          refine u_op 10 rfl rfl (EOp_store rfl rfl rfl (by first | exact s_bp ty_29 | exact s_ep ty_29) ?_)
          refine u_done ?_
          skip
          first
            | (refine ⟨[0, 1, 2, 3, 4, 5, 6, 7, 8, 11, 12, 13, 14, 9], rfl, (ys, i4, h4), ?_, rfl, ⟨.inr rfl, trivial⟩, ⟨.inr rfl, .inr rfl, .inr rfl, .inr rfl, .inr rfl, .inr rfl, trivial⟩⟩)
            | (refine ⟨[0, 1, 2, 3, 4, 5, 6, 7, 8, 11, 12, 13, 14, 10], rfl, (ys, i4, h4), ?_, rfl, ⟨.inr rfl, trivial⟩, ⟨.inr rfl, .inr rfl, .inr rfl, .inr rfl, .inr rfl, .inr rfl, trivial⟩⟩)
            | (refine ⟨[0, 1, 2, 3, 4, 5, 6, 7, 8, 10, 11, 12, 13, 14], rfl, (ys, i4, h4), ?_, rfl, ⟨.inr rfl, trivial⟩, ⟨.inr rfl, .inr rfl, .inr rfl, .inr rfl, .inr rfl, .inr rfl, trivial⟩⟩)
          exact ⟨hi4, hys⟩
        · first
            | (refine u_op 7 rfl rfl (EOp_call1 rfl rfl (by decide) rfl ca_121 (c_spec_l12Tail_za l i2 h2 Y hs Y.tail.length hb hi2 (by omega)) (by refine cons_eq ?_ (cons_eq ?_ (rfl)) <;> first | (refine lend_whole rfl ?_; first | assumption | exact ints_len _ | exact pairs_len _ | exact quads_len _ | exact quints_len _ | exact bools_len _ | (simp [ints_len, bools_len, pairs_len, quads_len, quints_len, part_len, *]; done) | (simp [ints_len, bools_len, pairs_len, quads_len, quints_len]; omega) | rfl) | (refine agg_eq ?_; repeat' (first | (refine lendC_whole rfl ?_; first | assumption | exact ints_len _ | exact pairs_len _ | exact quads_len _ | exact quints_len _ | exact bools_len _ | (simp [ints_len, bools_len, pairs_len, quads_len, quints_len, part_len, *]; done) | (simp [ints_len, bools_len, pairs_len, quads_len, quints_len]; omega) | rfl) | refine cons_eq ?_ ?_ | rfl)) | rfl | simp [E.lend, E.lendC, E.ev, E.cv, E.get, E.fill', E.fill, AV.sh, AC.sh, Res.sh, ints_len, *]) ?_))
            | (refine u_op 7 rfl rfl (EOp_call1 rfl rfl (by decide) rfl ca_121 (c_spec_l12Tail_zb l i2 h2 Y hs Y.tail.length hb hi2 (by omega)) (by refine cons_eq ?_ (cons_eq ?_ (rfl)) <;> first | (refine lend_whole rfl ?_; first | assumption | exact ints_len _ | exact pairs_len _ | exact quads_len _ | exact quints_len _ | exact bools_len _ | (simp [ints_len, bools_len, pairs_len, quads_len, quints_len, part_len, *]; done) | (simp [ints_len, bools_len, pairs_len, quads_len, quints_len]; omega) | rfl) | (refine agg_eq ?_; repeat' (first | (refine lendC_whole rfl ?_; first | assumption | exact ints_len _ | exact pairs_len _ | exact quads_len _ | exact quints_len _ | exact bools_len _ | (simp [ints_len, bools_len, pairs_len, quads_len, quints_len, part_len, *]; done) | (simp [ints_len, bools_len, pairs_len, quads_len, quints_len]; omega) | rfl) | refine cons_eq ?_ ?_ | rfl)) | rfl | simp [E.lend, E.lendC, E.ev, E.cv, E.get, E.fill', E.fill, AV.sh, AC.sh, Res.sh, ints_len, *]) ?_))
          rintro r S ⟨ys, i4, h4, ⟨rfl, rfl⟩, hi4, hys⟩
          refine u_any 2 [] ⟨?_, trivial⟩
          refine u_op 2 rfl rfl (EOp_light rfl (by decide) (L_load rfl (by first | exact d_bp ty_24 | exact ld_rp ty_24 rfl | exact d_ep ty_24)) ?_)
          refine u_any 8 [] ⟨?_, trivial⟩
          refine u_call 8 rfl rfl rfl rfl rfl ca_42 (c_spec_NewMap Y.c.vals ys (by omega)) ?_
          rintro r S ⟨rfl, rfl⟩
          refine u_any 10 [] ⟨?_, trivial⟩
          refine u_op 10 rfl rfl (EOp_store rfl rfl rfl (by first | exact s_bp ty_29 | exact s_ep ty_29) ?_)
          refine u_done ?_
          skip
          first
            | (refine ⟨[0, 1, 2, 3, 4, 5, 6, 7, 8, 11, 12, 13, 14, 9], rfl, (ys, i4, h4), ?_, rfl, ⟨.inr rfl, trivial⟩, ⟨.inr rfl, .inr rfl, .inr rfl, .inr rfl, .inr rfl, .inr rfl, trivial⟩⟩)
            | (refine ⟨[0, 1, 2, 3, 4, 5, 6, 7, 8, 11, 12, 13, 14, 10], rfl, (ys, i4, h4), ?_, rfl, ⟨.inr rfl, trivial⟩, ⟨.inr rfl, .inr rfl, .inr rfl, .inr rfl, .inr rfl, .inr rfl, trivial⟩⟩)
            | (refine ⟨[0, 1, 2, 3, 4, 5, 6, 7, 8, 10, 11, 12, 13, 14], rfl, (ys, i4, h4), ?_, rfl, ⟨.inr rfl, trivial⟩, ⟨.inr rfl, .inr rfl, .inr rfl, .inr rfl, .inr rfl, .inr rfl, trivial⟩⟩)
          exact ⟨hi4, hys⟩
    · refine u_op 9 rfl rfl (EOp_alloc rfl rfl (by decide) za_29 ?_)
      refine u_any 2 [5] ⟨?_, ?_, trivial⟩
      · refine u_op 2 rfl rfl (EOp_light rfl (by decide) (L_load rfl (by first | exact d_bp ty_24 | exact ld_rp ty_24 rfl | exact d_ep ty_24)) ?_)
        refine u_any 5 [] ⟨?_, trivial⟩
        refine u_op 5 rfl rfl (EOp_light rfl (by decide) (L_load rfl (by first | exact d_bp ty_24 | exact ld_rp ty_24 rfl | exact d_ep ty_24)) ?_)
        refine u_pure 6 rfl rfl rfl (l_len rfl sl_24) ?_
        refine u_any 7 [] ⟨?_, trivial⟩
        first
          | (refine u_op 7 rfl rfl (EOp_call1 rfl rfl (by decide) rfl ca_121 (c_spec_l12Tail_za l i2 h2 Y hs Y.tail.length hb hi2 (by omega)) (by refine cons_eq ?_ (cons_eq ?_ (rfl)) <;> first | (refine lend_whole rfl ?_; first | assumption | exact ints_len _ | exact pairs_len _ | exact quads_len _ | exact quints_len _ | exact bools_len _ | (simp [ints_len, bools_len, pairs_len, quads_len, quints_len, part_len, *]; done) | (simp [ints_len, bools_len, pairs_len, quads_len, quints_len]; omega) | rfl) | (refine agg_eq ?_; repeat' (first | (refine lendC_whole rfl ?_; first | assumption | exact ints_len _ | exact pairs_len _ | exact quads_len _ | exact quints_len _ | exact bools_len _ | (simp [ints_len, bools_len, pairs_len, quads_len, quints_len, part_len, *]; done) | (simp [ints_len, bools_len, pairs_len, quads_len, quints_len]; omega) | rfl) | refine cons_eq ?_ ?_ | rfl)) | rfl | simp [E.lend, E.lendC, E.ev, E.cv, E.get, E.fill', E.fill, AV.sh, AC.sh, Res.sh, ints_len, *]) ?_))
          | (refine u_op 7 rfl rfl (EOp_call1 rfl rfl (by decide) rfl ca_121 (c_spec_l12Tail_zb l i2 h2 Y hs Y.tail.length hb hi2 (by omega)) (by refine cons_eq ?_ (cons_eq ?_ (rfl)) <;> first | (refine lend_whole rfl ?_; first | assumption | exact ints_len _ | exact pairs_len _ | exact quads_len _ | exact quints_len _ | exact bools_len _ | (simp [ints_len, bools_len, pairs_len, quads_len, quints_len, part_len, *]; done) | (simp [ints_len, bools_len, pairs_len, quads_len, quints_len]; omega) | rfl) | (refine agg_eq ?_; repeat' (first | (refine lendC_whole rfl ?_; first | assumption | exact ints_len _ | exact pairs_len _ | exact quads_len _ | exact quints_len _ | exact bools_len _ | (simp [ints_len, bools_len, pairs_len, quads_len, quints_len, part_len, *]; done) | (simp [ints_len, bools_len, pairs_len, quads_len, quints_len]; omega) | rfl) | refine cons_eq ?_ ?_ | rfl)) | rfl | simp [E.lend, E.lendC, E.ev, E.cv, E.get, E.fill', E.fill, AV.sh, AC.sh, Res.sh, ints_len, *]) ?_))
        rintro r S ⟨ys, i4, h4, ⟨rfl, rfl⟩, hi4, hys⟩
        refine u_any 8 [] ⟨?_, trivial⟩
        refine u_call 8 rfl rfl rfl rfl rfl ca_42 (c_spec_NewMap Y.c.vals ys (by omega)) ?_
        rintro r S ⟨rfl, rfl⟩
        refine u_any 10 [] ⟨?_, trivial⟩
        refine u_op 10 rfl rfl (EOp_store rfl rfl rfl (by first | exact s_bp ty_29 | exact s_ep ty_29) ?_)
        refine u_done ?_
        skip
        first
          | (refine ⟨[0, 1, 2, 3, 4, 5, 6, 7, 8, 11, 12, 13, 14, 9], rfl, (ys, i4, h4), ?_, rfl, ⟨.inr rfl, trivial⟩, ⟨.inr rfl, .inr rfl, .inr rfl, .inr rfl, .inr rfl, .inr rfl, trivial⟩⟩)
          | (refine ⟨[0, 1, 2, 3, 4, 5, 6, 7, 8, 11, 12, 13, 14, 10], rfl, (ys, i4, h4), ?_, rfl, ⟨.inr rfl, trivial⟩, ⟨.inr rfl, .inr rfl, .inr rfl, .inr rfl, .inr rfl, .inr rfl, trivial⟩⟩)
          | (refine ⟨[0, 1, 2, 3, 4, 5, 6, 7, 8, 10, 11, 12, 13, 14], rfl, (ys, i4, h4), ?_, rfl, ⟨.inr rfl, trivial⟩, ⟨.inr rfl, .inr rfl, .inr rfl, .inr rfl, .inr rfl, .inr rfl, trivial⟩⟩)
        exact ⟨hi4, hys⟩
      · refine u_op 5 rfl rfl (EOp_light rfl (by decide) (L_load rfl (by first | exact d_bp ty_24 | exact ld_rp ty_24 rfl | exact d_ep ty_24)) ?_)
        refine u_pure 6 rfl rfl rfl (l_len rfl sl_24) ?_
        refine u_any 2 [7] ⟨?_, ?_, trivial⟩
        · refine u_op 2 rfl rfl (EOp_light rfl (by decide) (L_load rfl (by first | exact d_bp ty_24 | exact ld_rp ty_24 rfl | exact d_ep ty_24)) ?_)
          refine u_any 7 [] ⟨?_, trivial⟩
          first
            | (refine u_op 7 rfl rfl (EOp_call1 rfl rfl (by decide) rfl ca_121 (c_spec_l12Tail_za l i2 h2 Y hs Y.tail.length hb hi2 (by omega)) (by refine cons_eq ?_ (cons_eq ?_ (rfl)) <;> first | (refine lend_whole rfl ?_; first | assumption | exact ints_len _ | exact pairs_len _ | exact quads_len _ | exact quints_len _ | exact bools_len _ | (simp [ints_len, bools_len, pairs_len, quads_len, quints_len, part_len, *]; done) | (simp [ints_len, bools_len, pairs_len, quads_len, quints_len]; omega) | rfl) | (refine agg_eq ?_; repeat' (first | (refine lendC_whole rfl ?_; first | assumption | exact ints_len _ | exact pairs_len _ | exact quads_len _ | exact quints_len _ | exact bools_len _ | (simp [ints_len, bools_len, pairs_len, quads_len, quints_len, part_len, *]; done) | (simp [ints_len, bools_len, pairs_len, quads_len, quints_len]; omega) | rfl) | refine cons_eq ?_ ?_ | rfl)) | rfl | simp [E.lend, E.lendC, E.ev, E.cv, E.get, E.fill', E.fill, AV.sh, AC.sh, Res.sh, ints_len, *]) ?_))
            | (refine u_op 7 rfl rfl (EOp_call1 rfl rfl (by decide) rfl ca_121 (c_spec_l12Tail_zb l i2 h2 Y hs Y.tail.length hb hi2 (by omega)) (by refine cons_eq ?_ (cons_eq ?_ (rfl)) <;> first | (refine lend_whole rfl ?_; first | assumption | exact ints_len _ | exact pairs_len _ | exact quads_len _ | exact quints_len _ | exact bools_len _ | (simp [ints_len, bools_len, pairs_len, quads_len, quints_len, part_len, *]; done) | (simp [ints_len, bools_len, pairs_len, quads_len, quints_len]; omega) | rfl) | (refine agg_eq ?_; repeat' (first | (refine lendC_whole rfl ?_; first | assumption | exact ints_len _ | exact pairs_len _ | exact quads_len _ | exact quints_len _ | exact bools_len _ | (simp [ints_len, bools_len, pairs_len, quads_len, quints_len, part_len, *]; done) | (simp [ints_len, bools_len, pairs_len, quads_len, quints_len]; omega) | rfl) | refine cons_eq ?_ ?_ | rfl)) | rfl | simp [E.lend, E.lendC, E.ev, E.cv, E.get, E.fill', E.fill, AV.sh, AC.sh, Res.sh, ints_len, *]) ?_))
          rintro r S ⟨ys, i4, h4, ⟨rfl, rfl⟩, hi4, hys⟩
          refine u_any 8 [] ⟨?_, trivial⟩
          refine u_call 8 rfl rfl rfl rfl rfl ca_42 (c_spec_NewMap Y.c.vals ys (by omega)) ?_
          rintro r S ⟨rfl, rfl⟩
          refine u_any 10 [] ⟨?_, trivial⟩
          refine u_op 10 rfl rfl (EOp_store rfl rfl rfl (by first | exact s_bp ty_29 | exact s_ep ty_29) ?_)
          refine u_done ?_
          skip
          first
            | (refine ⟨[0, 1, 2, 3, 4, 5, 6, 7, 8, 11, 12, 13, 14, 9], rfl, (ys, i4, h4), ?_, rfl, ⟨.inr rfl, trivial⟩, ⟨.inr rfl, .inr rfl, .inr rfl, .inr rfl, .inr rfl, .inr rfl, trivial⟩⟩)
            | (refine ⟨[0, 1, 2, 3, 4, 5, 6, 7, 8, 11, 12, 13, 14, 10], rfl, (ys, i4, h4), ?_, rfl, ⟨.inr rfl, trivial⟩, ⟨.inr rfl, .inr rfl, .inr rfl, .inr rfl, .inr rfl, .inr rfl, trivial⟩⟩)
            | (refine ⟨[0, 1, 2, 3, 4, 5, 6, 7, 8, 10, 11, 12, 13, 14], rfl, (ys, i4, h4), ?_, rfl, ⟨.inr rfl, trivial⟩, ⟨.inr rfl, .inr rfl, .inr rfl, .inr rfl, .inr rfl, .inr rfl, trivial⟩⟩)
          exact ⟨hi4, hys⟩
        · first
            | (refine u_op 7 rfl rfl (EOp_call1 rfl rfl (by decide) rfl ca_121 (c_spec_l12Tail_za l i2 h2 Y hs Y.tail.length hb hi2 (by omega)) (by refine cons_eq ?_ (cons_eq ?_ (rfl)) <;> first | (refine lend_whole rfl ?_; first | assumption | exact ints_len _ | exact pairs_len _ | exact quads_len _ | exact quints_len _ | exact bools_len _ | (simp [ints_len, bools_len, pairs_len, quads_len, quints_len, part_len, *]; done) | (simp [ints_len, bools_len, pairs_len, quads_len, quints_len]; omega) | rfl) | (refine agg_eq ?_; repeat' (first | (refine lendC_whole rfl ?_; first | assumption | exact ints_len _ | exact pairs_len _ | exact quads_len _ | exact quints_len _ | exact bools_len _ | (simp [ints_len, bools_len, pairs_len, quads_len, quints_len, part_len, *]; done) | (simp [ints_len, bools_len, pairs_len, quads_len, quints_len]; omega) | rfl) | refine cons_eq ?_ ?_ | rfl)) | rfl | simp [E.lend, E.lendC, E.ev, E.cv, E.get, E.fill', E.fill, AV.sh, AC.sh, Res.sh, ints_len, *]) ?_))
            | (refine u_op 7 rfl rfl (EOp_call1 rfl rfl (by decide) rfl ca_121 (c_spec_l12Tail_zb l i2 h2 Y hs Y.tail.length hb hi2 (by omega)) (by refine cons_eq ?_ (cons_eq ?_ (rfl)) <;> first | (refine lend_whole rfl ?_; first | assumption | exact ints_len _ | exact pairs_len _ | exact quads_len _ | exact quints_len _ | exact bools_len _ | (simp [ints_len, bools_len, pairs_len, quads_len, quints_len, part_len, *]; done) | (simp [ints_len, bools_len, pairs_len, quads_len, quints_len]; omega) | rfl) | (refine agg_eq ?_; repeat' (first | (refine lendC_whole rfl ?_; first | assumption | exact ints_len _ | exact pairs_len _ | exact quads_len _ | exact quints_len _ | exact bools_len _ | (simp [ints_len, bools_len, pairs_len, quads_len, quints_len, part_len, *]; done) | (simp [ints_len, bools_len, pairs_len, quads_len, quints_len]; omega) | rfl) | refine cons_eq ?_ ?_ | rfl)) | rfl | simp [E.lend, E.lendC, E.ev, E.cv, E.get, E.fill', E.fill, AV.sh, AC.sh, Res.sh, ints_len, *]) ?_))
          rintro r S ⟨ys, i4, h4, ⟨rfl, rfl⟩, hi4, hys⟩
          refine u_any 2 [] ⟨?_, trivial⟩
          refine u_op 2 rfl rfl (EOp_light rfl (by decide) (L_load rfl (by first | exact d_bp ty_24 | exact ld_rp ty_24 rfl | exact d_ep ty_24)) ?_)
          refine u_any 8 [] ⟨?_, trivial⟩
          refine u_call 8 rfl rfl rfl rfl rfl ca_42 (c_spec_NewMap Y.c.vals ys (by omega)) ?_
          rintro r S ⟨rfl, rfl⟩
          refine u_any 10 [] ⟨?_, trivial⟩
          refine u_op 10 rfl rfl (EOp_store rfl rfl rfl (by first | exact s_bp ty_29 | exact s_ep ty_29) ?_)
          refine u_done ?_
          skip
          first
            | (refine ⟨[0, 1, 2, 3, 4, 5, 6, 7, 8, 11, 12, 13, 14, 9], rfl, (ys, i4, h4), ?_, rfl, ⟨.inr rfl, trivial⟩, ⟨.inr rfl, .inr rfl, .inr rfl, .inr rfl, .inr rfl, .inr rfl, trivial⟩⟩)
            | (refine ⟨[0, 1, 2, 3, 4, 5, 6, 7, 8, 11, 12, 13, 14, 10], rfl, (ys, i4, h4), ?_, rfl, ⟨.inr rfl, trivial⟩, ⟨.inr rfl, .inr rfl, .inr rfl, .inr rfl, .inr rfl, .inr rfl, trivial⟩⟩)
            | (refine ⟨[0, 1, 2, 3, 4, 5, 6, 7, 8, 10, 11, 12, 13, 14], rfl, (ys, i4, h4), ?_, rfl, ⟨.inr rfl, trivial⟩, ⟨.inr rfl, .inr rfl, .inr rfl, .inr rfl, .inr rfl, .inr rfl, trivial⟩⟩)
          exact ⟨hi4, hys⟩
  rintro ⟨ys, i4, h4⟩ ⟨hi4, hys⟩
  refine G_seq ?_
  refine G_seq ?_
  refine g_tidy_A134_2 [0, 2, 3, 4, 5, 6, 7] ?_
  refine G_region' (L := [0, 1]) rfl ?_
  refine xmv ?_
  refine EOps_go rfl rfl (EOp_call1 rfl rfl (by decide) rfl ca_128 (c_spec_l1Once l i4 h4 2 _ hb hi4 (by decide)) (by refine cons_eq ?_ (cons_eq ?_ (rfl)) <;> first | (refine lend_whole rfl ?_; first | assumption | exact ints_len _ | exact pairs_len _ | exact quads_len _ | exact quints_len _ | exact bools_len _ | (simp [ints_len, bools_len, pairs_len, quads_len, quints_len, part_len, *]; done) | (simp [ints_len, bools_len, pairs_len, quads_len, quints_len]; omega) | rfl) | (refine agg_eq ?_; repeat' (first | (refine lendC_whole rfl ?_; first | assumption | exact ints_len _ | exact pairs_len _ | exact quads_len _ | exact quints_len _ | exact bools_len _ | (simp [ints_len, bools_len, pairs_len, quads_len, quints_len, part_len, *]; done) | (simp [ints_len, bools_len, pairs_len, quads_len, quints_len]; omega) | rfl) | refine cons_eq ?_ ?_ | rfl)) | rfl | simp [E.lend, E.lendC, E.ev, E.cv, E.get, E.fill', E.fill, AV.sh, AC.sh, Res.sh, ints_len, *]) ?_)
  rintro r S ⟨b5, i5, h5, ⟨rfl, rfl⟩, hi5⟩
  have hn := newMp_small Y.c.vals ys
  generalize newMp Y.c.vals ys = Y2 at *
  have hA := alM_small Y2 hs
  refine EOps_nil ?_
  refine G_cond rfl (fun hc28 => ?_) (fun hc28 => ?_)
  · refine G_seq ?_
    refine g_tidy_A134_2 [0, 2, 3, 4, 5, 6, 7, 28] ?_
    refine G_region' (L := [0, 1, 2, 3, 4, 5, 6, 7, 8, 9, 10]) rfl ?_
    refine x_light rfl rfl rfl (L_load rfl (by first | exact d_bp ty_29 | exact ld_rp ty_29 rfl | exact d_ep ty_29)) ?_
    refine xmv ?_
    refine x_call rfl rfl rfl rfl rfl ca_45 (c_spec_AlignMap Y2 hs (by omega)) ?_
    rintro r S ⟨rfl, rfl⟩
    refine xmv ?_
    refine x_pure rfl rfl rfl (L_extract rfl rfl) ?_
    refine x_pure rfl rfl rfl (L_extract rfl rfl) ?_
    refine x_pure rfl rfl rfl (L_extract rfl rfl) ?_
    refine x_alloc rfl rfl rfl rfl za_29 ?_
    refine EOps_go rfl rfl (EOp_store rfl rfl rfl (by first | exact s_bp ty_29 | exact s_ep ty_29) ?_)
    refine xas ?_
    refine xas ?_
    refine EOps_nil ?_
    refine G_seq ?_
    refine G_drawU mixed ?_
    refine u_any 0 [1] ⟨?_, ?_, trivial⟩
    · refine u_op 0 rfl rfl (EOp_light rfl (by decide) (L_load rfl (by first | exact d_bp ty_29 | exact ld_rp ty_29 rfl | exact d_ep ty_29)) ?_)
      refine u_any 1 [2] ⟨?_, ?_, trivial⟩
      · refine u_op 1 rfl rfl (EOp_light rfl (by decide) (L_load rfl (by first | exact d_bp ty_29 | exact ld_rp ty_29 rfl | exact d_ep ty_29)) ?_)
        refine u_any 2 [] ⟨?_, trivial⟩
        refine u_op 2 rfl rfl (EOp_store rfl rfl rfl (by first | exact s_bp ty_29 | exact s_ep ty_29) ?_)
        refine u_any 3 [] ⟨?_, trivial⟩
        refine u_op 3 rfl rfl (EOp_store rfl rfl rfl (by first | exact s_bp ty_29 | exact s_ep ty_29) ?_)
        refine u_done ?_
        refine G_ret ?_
        first
          | exact ⟨_, [3, 4, 5, 6, 14, 15, 16, 17], rfl, rfl, Y, alM Y2 hs, ⟨rfl, rfl⟩, by omega, by omega⟩
          | (refine ⟨_, [3, 4, 5, 6, 8, 9, 10, 13], rfl, rfl, Y, ⟨Y.c, zs, Y.app⟩, ⟨rfl, rfl⟩, by omega, ?_⟩
             show Y.c.vals.length ≤ 12 ∧ Y.c.rows.length ≤ 12 ∧ Y.c.piv.length ≤ 9 ∧ zs.length ≤ 13
             omega)
      · refine u_op 2 rfl rfl (EOp_store rfl rfl rfl (by first | exact s_bp ty_29 | exact s_ep ty_29) ?_)
        refine u_any 1 [] ⟨?_, trivial⟩
        refine u_op 1 rfl rfl (EOp_light rfl (by decide) (L_load rfl (by first | exact d_bp ty_29 | exact ld_rp ty_29 rfl | exact d_ep ty_29)) ?_)
        refine u_any 3 [] ⟨?_, trivial⟩
        refine u_op 3 rfl rfl (EOp_store rfl rfl rfl (by first | exact s_bp ty_29 | exact s_ep ty_29) ?_)
        refine u_done ?_
        refine G_ret ?_
        first
          | exact ⟨_, [3, 4, 5, 6, 14, 15, 16, 17], rfl, rfl, Y, alM Y2 hs, ⟨rfl, rfl⟩, by omega, by omega⟩
          | (refine ⟨_, [3, 4, 5, 6, 8, 9, 10, 13], rfl, rfl, Y, ⟨Y.c, zs, Y.app⟩, ⟨rfl, rfl⟩, by omega, ?_⟩
             show Y.c.vals.length ≤ 12 ∧ Y.c.rows.length ≤ 12 ∧ Y.c.piv.length ≤ 9 ∧ zs.length ≤ 13
             omega)
    · refine u_op 1 rfl rfl (EOp_light rfl (by decide) (L_load rfl (by first | exact d_bp ty_29 | exact ld_rp ty_29 rfl | exact d_ep ty_29)) ?_)
      refine u_any 0 [] ⟨?_, trivial⟩
      refine u_op 0 rfl rfl (EOp_light rfl (by decide) (L_load rfl (by first | exact d_bp ty_29 | exact ld_rp ty_29 rfl | exact d_ep ty_29)) ?_)
      refine u_any 2 [] ⟨?_, trivial⟩
      refine u_op 2 rfl rfl (EOp_store rfl rfl rfl (by first | exact s_bp ty_29 | exact s_ep ty_29) ?_)
      refine u_any 3 [] ⟨?_, trivial⟩
      refine u_op 3 rfl rfl (EOp_store rfl rfl rfl (by first | exact s_bp ty_29 | exact s_ep ty_29) ?_)
      refine u_done ?_
      refine G_ret ?_
      first
        | exact ⟨_, [3, 4, 5, 6, 14, 15, 16, 17], rfl, rfl, Y, alM Y2 hs, ⟨rfl, rfl⟩, by omega, by omega⟩
        | (refine ⟨_, [3, 4, 5, 6, 8, 9, 10, 13], rfl, rfl, Y, ⟨Y.c, zs, Y.app⟩, ⟨rfl, rfl⟩, by omega, ?_⟩
           show Y.c.vals.length ≤ 12 ∧ Y.c.rows.length ≤ 12 ∧ Y.c.piv.length ≤ 9 ∧ zs.length ≤ 13
           omega)
  · refine G_skip ?_
    refine G_seq ?_
    refine g_tidy_A134_2 [0, 2, 3, 4, 5, 6, 7, 28] ?_
    refine G_region' (L := [0, 1, 2]) rfl ?_
    refine x_light rfl rfl rfl (L_load rfl (by first | exact d_bp ty_29 | exact ld_rp ty_29 rfl | exact d_ep ty_29)) ?_
    refine x_call rfl rfl rfl rfl rfl ca_80 (c_spec_l12Copy Y (by omega)) ?_
    rintro r S ⟨rfl, rfl⟩
    refine EOps_go rfl rfl (EOp_store rfl rfl rfl (by first | exact s_bp ty_29 | exact s_ep ty_29) ?_)
    refine EOps_nil ?_
    refine G_seq ?_
    refine G_drop [0, 2, 3, 4, 5, 7] [0, 1, 2, 3, 4, 5, 6, 8, 14, 15, 16, 17, 13] rfl rfl rfl ?_
    refine g_tidy_A134_2 [0, 2, 3, 4, 5, 6, 7, 28] ?_
    refine G_region' (L := [0, 1, 2, 3, 4, 5, 6]) rfl ?_
    refine xmv ?_
    refine x_pure rfl rfl rfl (l_field rfl fo_29_1) ?_
    refine x_light rfl rfl rfl (L_load rfl (by first | exact d_bp ty_24 | exact ld_rp ty_24 rfl | exact d_ep ty_24)) ?_
    refine x_pure rfl rfl rfl (l_len rfl sl_24) ?_
    refine EOps_go rfl rfl (EOp_call1 rfl rfl (by decide) rfl ca_121 (c_spec_l12Tail_zc l i5 h5 Y Y.tail.length hb hi5 (by omega)) (by refine cons_eq ?_ (cons_eq ?_ (rfl)) <;> first | (refine lend_whole rfl ?_; first | assumption | exact ints_len _ | exact pairs_len _ | exact quads_len _ | exact quints_len _ | exact bools_len _ | (simp [ints_len, bools_len, pairs_len, quads_len, quints_len, part_len, *]; done) | (simp [ints_len, bools_len, pairs_len, quads_len, quints_len]; omega) | rfl) | (refine agg_eq ?_; repeat' (first | (refine lendC_whole rfl ?_; first | assumption | exact ints_len _ | exact pairs_len _ | exact quads_len _ | exact quints_len _ | exact bools_len _ | (simp [ints_len, bools_len, pairs_len, quads_len, quints_len, part_len, *]; done) | (simp [ints_len, bools_len, pairs_len, quads_len, quints_len]; omega) | rfl) | refine cons_eq ?_ ?_ | rfl)) | rfl | simp [E.lend, E.lendC, E.ev, E.cv, E.get, E.fill', E.fill, AV.sh, AC.sh, Res.sh, ints_len, *]) ?_)
    rintro r S ⟨zs, i6, h6, ⟨rfl, rfl⟩, hi6, hzs⟩
    refine x_pure rfl rfl rfl (l_field rfl fo_29_1) ?_
    refine EOps_go rfl rfl (EOp_store rfl rfl rfl (by first | exact s_bp ty_24 | exact s_ep ty_24) ?_)
    refine EOps_nil ?_
    refine G_seq ?_
    refine G_drawU mixed ?_
    refine u_any 0 [1] ⟨?_, ?_, trivial⟩
    · refine u_op 0 rfl rfl (EOp_light rfl (by decide) (L_load rfl (by first | exact d_bp ty_29 | exact ld_rp ty_29 rfl | exact d_ep ty_29)) ?_)
      refine u_any 1 [2] ⟨?_, ?_, trivial⟩
      · refine u_op 1 rfl rfl (EOp_light rfl (by decide) (L_load rfl (by first | exact d_bp ty_29 | exact ld_rp ty_29 rfl | exact d_ep ty_29)) ?_)
        refine u_any 2 [] ⟨?_, trivial⟩
        refine u_op 2 rfl rfl (EOp_store rfl rfl rfl (by first | exact s_bp ty_29 | exact s_ep ty_29) ?_)
        refine u_any 3 [] ⟨?_, trivial⟩
        refine u_op 3 rfl rfl (EOp_store rfl rfl rfl (by first | exact s_bp ty_29 | exact s_ep ty_29) ?_)
        refine u_done ?_
        refine G_ret ?_
        first
          | exact ⟨_, [3, 4, 5, 6, 14, 15, 16, 17], rfl, rfl, Y, alM Y2 hs, ⟨rfl, rfl⟩, by omega, by omega⟩
          | (refine ⟨_, [3, 4, 5, 6, 8, 9, 10, 13], rfl, rfl, Y, ⟨Y.c, zs, Y.app⟩, ⟨rfl, rfl⟩, by omega, ?_⟩
             show Y.c.vals.length ≤ 12 ∧ Y.c.rows.length ≤ 12 ∧ Y.c.piv.length ≤ 9 ∧ zs.length ≤ 13
             omega)
      · refine u_op 2 rfl rfl (EOp_store rfl rfl rfl (by first | exact s_bp ty_29 | exact s_ep ty_29) ?_)
        refine u_any 1 [] ⟨?_, trivial⟩
        refine u_op 1 rfl rfl (EOp_light rfl (by decide) (L_load rfl (by first | exact d_bp ty_29 | exact ld_rp ty_29 rfl | exact d_ep ty_29)) ?_)
        refine u_any 3 [] ⟨?_, trivial⟩
        refine u_op 3 rfl rfl (EOp_store rfl rfl rfl (by first | exact s_bp ty_29 | exact s_ep ty_29) ?_)
        refine u_done ?_
        refine G_ret ?_
        first
          | exact ⟨_, [3, 4, 5, 6, 14, 15, 16, 17], rfl, rfl, Y, alM Y2 hs, ⟨rfl, rfl⟩, by omega, by omega⟩
          | (refine ⟨_, [3, 4, 5, 6, 8, 9, 10, 13], rfl, rfl, Y, ⟨Y.c, zs, Y.app⟩, ⟨rfl, rfl⟩, by omega, ?_⟩
             show Y.c.vals.length ≤ 12 ∧ Y.c.rows.length ≤ 12 ∧ Y.c.piv.length ≤ 9 ∧ zs.length ≤ 13
             omega)
    · refine u_op 1 rfl rfl (EOp_light rfl (by decide) (L_load rfl (by first | exact d_bp ty_29 | exact ld_rp ty_29 rfl | exact d_ep ty_29)) ?_)
      refine u_any 0 [] ⟨?_, trivial⟩
      refine u_op 0 rfl rfl (EOp_light rfl (by decide) (L_load rfl (by first | exact d_bp ty_29 | exact ld_rp ty_29 rfl | exact d_ep ty_29)) ?_)
      refine u_any 2 [] ⟨?_, trivial⟩
      refine u_op 2 rfl rfl (EOp_store rfl rfl rfl (by first | exact s_bp ty_29 | exact s_ep ty_29) ?_)
      refine u_any 3 [] ⟨?_, trivial⟩
      refine u_op 3 rfl rfl (EOp_store rfl rfl rfl (by first | exact s_bp ty_29 | exact s_ep ty_29) ?_)
      refine u_done ?_
      refine G_ret ?_
      first
        | exact ⟨_, [3, 4, 5, 6, 14, 15, 16, 17], rfl, rfl, Y, alM Y2 hs, ⟨rfl, rfl⟩, by omega, by omega⟩
        | (refine ⟨_, [3, 4, 5, 6, 8, 9, 10, 13], rfl, rfl, Y, ⟨Y.c, zs, Y.app⟩, ⟨rfl, rfl⟩, by omega, ?_⟩
           show Y.c.vals.length ≤ 12 ∧ Y.c.rows.length ≤ 12 ∧ Y.c.piv.length ≤ 9 ∧ zs.length ≤ 13
           omega)

end Go.Proofs.Ytcepgfcolmdnoaa.E
