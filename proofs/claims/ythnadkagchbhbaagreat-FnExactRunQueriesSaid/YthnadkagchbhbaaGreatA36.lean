/- Walks through functions, by program out of the session's annotations. -/
import Derived.Test.YthnadkagchbhbaaGreatA35
namespace Go.Proofs.YthnadkagchbhbaaGreat.E
open Go Go.RowKit Go.Proofs
set_option linter.unusedVariables false
set_option linter.unusedSimpArgs false

theorem partS_lt {vs : List Int} {v : Int} {i e : Nat} {acc : List (Int × Int)} (h : i < e + 1) (h1 : vs.getD i 0 < v) : partS vs v i (e + 1) acc = partS vs v (i + 1) (e + 1) acc := by rw [partS, dif_pos h, if_pos h1]
theorem partS_ge {vs : List Int} {v : Int} {i e : Nat} {acc : List (Int × Int)} (h : i < e + 1) (h1 : ¬ vs.getD i 0 < v) (h2 : v ≤ vs.getD e 0) : partS vs v i (e + 1) acc = partS vs v i e acc := by rw [partS, dif_pos h, if_neg h1, Nat.add_sub_cancel, if_pos h2]
theorem partS_sw {vs : List Int} {v : Int} {i e : Nat} {acc : List (Int × Int)} (h : i < e + 1) (h1 : ¬ vs.getD i 0 < v) (h2 : ¬ v ≤ vs.getD e 0) : partS vs v i (e + 1) acc = partS vs v (i + 1) e (acc ++ [((i : Int), (e : Int))]) := by rw [partS, dif_pos h, if_neg h1, Nat.add_sub_cancel, if_neg h2]
theorem partS_end {vs : List Int} {v : Int} {i e : Nat} {acc : List (Int × Int)} (h : ¬ i < e) : partS vs v i e acc = (acc, (i : Int)) := by rw [partS, dif_neg h]
def prtT (sw : List (Int × Int) × Int) : AV := .tup [(false, [.sl 0 0 sw.1.length sw.1.length]), (false, [.sc (.int .i64 sw.2)])]
theorem getD_x {l : List Int} {i : Nat} {x : Int} (h : l[i]? = some x) : l.getD i 0 = x := by simp [List.getD_eq_getElem?_getD, h]
theorem set_set_swp {l : List Int} {i e : Nat} {x y : Int} (hx : l[i]? = some x) (hy : l[e]? = some y) : ((ints l).set i [.sc (.int .i64 y)]).set e [.sc (.int .i64 x)] = ints (swp l ((i : Int), (e : Int))) := by
 have h1 := getD_x hx; have h2 := getD_x hy
 simp only [swp, Int.toNat_natCast, ints_set, h1, h2]
theorem swp_in {l : List Int} {i e q : Nat} (hne : i ≠ e) (h1 : i < l.length) (h2 : e < l.length) (h3 : i < q) (h4 : q < e) : (swp l ((i : Int), (e : Int))).getD q 0 = l.getD q 0 := by
 rw [swp_at l _ (by simpa using h1) (by simpa using h2)]; congr 1; simp only [tr1, Int.toNat_natCast]; rw [if_neg (by omega), if_neg (by omega)]

theorem e_tidy_A36_0 {P : Program} {N : Nat} {s : Slots} {R : List Res} {Q : Exit → Slots → List Res → Prop} {c : Code} (keep : List Nat) {base : Slots} {R' : List Res} (h : ECode P N c base R' Q) (hb : keepOf s keep = base := by simp only [E.keepOf, E.get, E.ev, E.cv, E.fill', E.fill, E.slotsOf, Res.sh, AC.sh, AC.sh.shs, AV.sh, E.splice, List.map_cons, List.map_nil, List.cons_append, List.nil_append, List.append_nil, List.length_cons, List.length_nil, List.take_zero, List.drop_zero, List.take_succ_cons, List.drop_succ_cons, List.drop_nil, List.take_nil, List.set_cons_zero, List.set_cons_succ, Nat.zero_add, Nat.add_zero, Nat.reduceAdd, Nat.reduceSub, reduceIte, Nat.reduceEqDiff, E.back, E.backR, E.ix, Res.un, AC.un, AC.un.uns, AV.un, E.un, Option.map_some, Option.map_none, Option.getD_some, List.getElem?_cons_zero, List.getElem?_cons_succ, List.getElem?_nil, pairs_app, pairs_lenApp]; rfl) (hR : R = R' := by (try simp only [E.keepOf, E.get, E.ev, E.cv, E.fill', E.fill, E.slotsOf, Res.sh, AC.sh, AC.sh.shs, AV.sh, E.splice, List.map_cons, List.map_nil, List.cons_append, List.nil_append, List.append_nil, List.length_cons, List.length_nil, List.take_zero, List.drop_zero, List.take_succ_cons, List.drop_succ_cons, List.drop_nil, List.take_nil, List.set_cons_zero, List.set_cons_succ, Nat.zero_add, Nat.add_zero, Nat.reduceAdd, Nat.reduceSub, reduceIte, Nat.reduceEqDiff, E.back, E.backR, E.ix, Res.un, AC.un, AC.un.uns, AV.un, E.un, Option.map_some, Option.map_none, Option.getD_some, List.getElem?_cons_zero, List.getElem?_cons_succ, List.getElem?_nil, pairs_app, pairs_lenApp]); rfl) : ECode P N c s R Q := E_tidy keep hb hR h
theorem e_for_A36_1 {P : Program} {N : Nat} {s : Slots} {R : List Res} {Q : Exit → Slots → List Res → Prop} {α : Type} {c : Code} (keep : List Nat) (mods : α → Slots) (Rf : α → List Res) (I : α → Prop) (m : α → Nat) (x0 : α) {base : Slots} (h0 : I x0) (hR : R = Rf x0) (h1 : chk s (mods x0))
  (round : ∀ x, I x → ECode P N c (mods x ++ base) (Rf x) (EThen (fun s' R' => ∃ y, m y < m x ∧ I y ∧ R' = Rf y ∧ chk s' (mods y) ∧ chk s' base) Q)) (hb : keepOf s keep = base := by simp only [E.keepOf, E.get, E.ev, E.cv, E.fill', E.fill, E.slotsOf, Res.sh, AC.sh, AC.sh.shs, AV.sh, E.splice, List.map_cons, List.map_nil, List.cons_append, List.nil_append, List.append_nil, List.length_cons, List.length_nil, List.take_zero, List.drop_zero, List.take_succ_cons, List.drop_succ_cons, List.drop_nil, List.take_nil, List.set_cons_zero, List.set_cons_succ, Nat.zero_add, Nat.add_zero, Nat.reduceAdd, Nat.reduceSub, reduceIte, Nat.reduceEqDiff, E.back, E.backR, E.ix, Res.un, AC.un, AC.un.uns, AV.un, E.un, Option.map_some, Option.map_none, Option.getD_some, List.getElem?_cons_zero, List.getElem?_cons_succ, List.getElem?_nil, pairs_app, pairs_lenApp]; rfl) : ECode P N (.loop c) s R Q := E_for keep mods Rf I m x0 hb h0 hR h1 round

set_option maxRecDepth 20000 in
set_option maxHeartbeats 2000000 in
theorem c_spec_Partition (xs : List Int) (a e : Nat) (v : Int) (hae : a ≤ e) (hex : e ≤ xs.length) (hb : xs.length ≤ 1048576) : EFn Tryz.prog 89 [.c (.ro (ints xs)), .c (.sc (.int .i64 (a : Int))), .c (.sc (.int .i64 (e : Int))), .c (.sc (.int .i64 v))] [] (fun r S => r = prtT (partS xs v a e []) ∧ S = [.row 120 2 (pairs (partS xs v a e []).1)]) := by
 refine E_fn Tryz.func89 rfl (Nat.le_of_ble_eq_true rfl) ?_
 refine E_seq ?_
 refine E_region' (L := [0, 1]) rfl ?_
 refine xas ?_
 refine xas ?_
 refine EOps_nil ?_
 refine E_seq ?_
 refine E_region' (L := [0, 1]) rfl ?_
 refine EOps_go rfl rfl (Heavy.op (H_bslice rfl rfl (by decide) sl_99 ty_120 za_120 ⟨rfl, by decide⟩ (by decide) rfl rfl rfl rfl ?_))
 refine xas ?_
 refine EOps_nil ?_
 refine E_seq ?_
 refine E_seq ?_
 refine e_tidy_A36_0 [0, 1, 2, 3, 8, 9, 10] ?_
 refine E_region' (L := [0, 1, 2, 3, 4, 5, 6, 7, 8, 9]) rfl ?_
 refine xmv ?_
 refine xmv ?_
 refine x_call rfl rfl rfl rfl rfl ca_34 (c_spec_l1In a 0 e) ?_
 rintro r S ⟨rfl, rfl⟩
 refine x_pure rfl rfl rfl (L_not rfl rfl) ?_
 refine xmv ?_
 refine EOps_split 18 (b := _) rfl (fun hg18 => ?_) (fun hg18 => ?_)
 ·simp [isIn] at hg18; omega
 ·refine xmv ?_
  refine xmv ?_
  refine x_pure rfl rfl rfl (l_len rfl sl_22) ?_
  refine x_pure rfl rfl rfl (L_bin rfl rfl rfl rfl) ?_
  refine x_pure rfl rfl rfl (L_pick rfl rfl) ?_
  refine EOps_nil ?_
  refine E_cond rfl (fun hc23 => ?_) (fun hc23 => ?_)
  ·simp [ints_len] at hc23; omega
  ·refine E_skip ?_
   refine E_seq ?_
   refine E_region' (L := [0, 1]) rfl ?_
   refine xmv ?_
   refine xas ?_
   refine EOps_nil ?_
   refine E_seq ?_
   refine E_region' (L := [0, 1, 2]) rfl ?_
   refine xmv ?_
   refine x_pure rfl rfl rfl (by first | exact l_sub rfl rfl rfl | exact L_bin rfl rfl rfl rfl) ?_
   refine xas ?_
   refine EOps_nil ?_
   refine E_seq ?_
   refine E_block ?_
   refine e_for_A36_1 (α := Nat × Nat × List (Int × Int)) [0, 1, 2, 3, 8, 9, 23] (fun (i, e', acc) => [(11, .c (.sc (.int .i64 (i)))), (12, .c (.sc (.int .i64 (((e' : Int) - 1))))), (10, .c (.sl 0 0 acc.length acc.length))]) (fun (i, e', acc) => [.row 120 2 (pairs acc)]) (fun (i, e', acc) => i ≤ e' ∧ e' ≤ xs.length ∧ acc.length + (e' - i) ≤ 1048576 ∧ partS xs v i e' acc = partS xs v a e []) (fun (i, e', acc) => e' - i) ((a, e, [])) ?_ (rfl) ⟨.inr rfl, .inr rfl, .inr rfl, trivial⟩ ?_
   ·exact ⟨hae, hex, by simp; omega, rfl⟩
   rintro ⟨i, e', acc⟩ ⟨hie, hel, hac, hres⟩
   dsimp only
   have hpl : (pairs acc).length = acc.length := pairs_len _
   refine E_seq ?_
   refine E_seq ?_
   refine E_region' (L := [0, 1, 2]) rfl ?_
   refine xmv ?_
   refine xmv ?_
   refine x_pure rfl rfl rfl (L_bin rfl rfl rfl rfl) ?_
   refine EOps_nil ?_
   refine E_cond rfl (fun hc30 => ?_) (fun hc30 => ?_)
   ·have hlt : i < e' := by simp at hc30; omega
    obtain ⟨e1, rfl⟩ : ∃ e1, e' = e1 + 1 := ⟨e' - 1, by omega⟩
    rw [show ((e1 + 1 : Nat) : Int) - 1 = (e1 : Int) by omega]
    obtain ⟨x, hx⟩ := at_lt (l := xs) (k := i) (by omega)
    obtain ⟨y, hy⟩ := at_lt (l := xs) (k := e1) (by omega)
    have hxd := getD_x hx
    have hyd := getD_x hy
    refine E_skip ?_
    refine E_block ?_
    refine E_block ?_
    refine E_seq ?_
    refine E_region' (L := [0, 1, 2, 3, 4, 5, 6]) rfl ?_
    refine xmv ?_
    refine xmv ?_
    refine x_pure rfl rfl rfl (L_index rfl rfl (by first | exact i_ro sl_22 ty_3 | exact i_sl sl_22 ty_3)) ?_
    refine x_light rfl rfl rfl (L_load rfl (by first | exact d_bp ty_3 | exact ld_rp ty_3 rfl | exact d_ep ty_3)) ?_
    refine xmv ?_
    refine x_pure rfl rfl rfl (L_bin rfl rfl rfl rfl) ?_
    refine xas ?_
    refine EOps_nil ?_
    refine E_cond rfl (fun hc41 => ?_) (fun hc41 => ?_)
    ·have h1 : x < v := by simpa using hc41
     have hst := partS_lt (acc := acc) hlt (by rw [hxd]; exact h1)
     refine E_region' (L := [0, 1, 2]) rfl ?_
     refine xmv ?_
     refine x_pure rfl rfl rfl (by first | exact l_add rfl rfl rfl | exact L_bin rfl rfl rfl rfl) ?_
     refine xas ?_
     refine EOps_nil ?_
     refine ⟨(i + 1, e1 + 1, acc), ?_, ?_, by first | rfl | (simp only [pairs_app]; rfl) | (simp [pairs]; done), ⟨.inr (int_eq (by first | rfl | omega | (dsimp only; done) | (dsimp only; omega) | (simp [pairs_len]; done))), .inr (int_eq (by first | rfl | omega | (dsimp only; done) | (dsimp only; omega) | (simp [pairs_len]; done))), .inr ((by first | rfl | exact sl_eq (by simp [pairs_len]))), trivial⟩, ⟨.inr rfl, .inr rfl, .inr rfl, .inr rfl, .inr rfl, .inr rfl, .inr rfl, trivial⟩⟩
     ·first | omega | (dsimp only; omega) | (simp; omega)
     ·exact ⟨by first | omega | (dsimp only; done) | (dsimp only; omega) | (simp; omega), by first | omega | (dsimp only; done) | (dsimp only; omega) | (simp; omega), by first | omega | (dsimp only; done) | (dsimp only; omega) | (simp; omega), hst.symm.trans hres⟩
    ·have h1 : ¬ x < v := by simpa using hc41
     refine E_seq ?_
     refine E_region' (L := [0, 1, 2, 3, 4, 5, 6]) rfl ?_
     refine xmv ?_
     refine xmv ?_
     refine x_pure rfl rfl rfl (L_index rfl rfl (by first | exact i_ro sl_22 ty_3 | exact i_sl sl_22 ty_3)) ?_
     refine x_light rfl rfl rfl (L_load rfl (by first | exact d_bp ty_3 | exact ld_rp ty_3 rfl | exact d_ep ty_3)) ?_
     refine xmv ?_
     refine x_pure rfl rfl rfl (L_bin rfl rfl rfl rfl) ?_
     refine xas ?_
     refine EOps_nil ?_
     refine E_cond rfl (fun hc50 => ?_) (fun hc50 => ?_)
     ·have h2 : v ≤ y := by simpa using hc50
      have hst := partS_ge (acc := acc) hlt (by rw [hxd]; exact h1) (by rw [hyd]; exact h2)
      refine E_region' (L := [0, 1, 2]) rfl ?_
      refine xmv ?_
      refine x_pure rfl rfl rfl (by first | exact l_sub rfl rfl rfl | exact L_bin rfl rfl rfl rfl) ?_
      refine xas ?_
      refine EOps_nil ?_
      refine ⟨(i, e1, acc), ?_, ?_, by first | rfl | (simp only [pairs_app]; rfl) | (simp [pairs]; done), ⟨.inr (int_eq (by first | rfl | omega | (dsimp only; done) | (dsimp only; omega) | (simp [pairs_len]; done))), .inr (int_eq (by first | rfl | omega | (dsimp only; done) | (dsimp only; omega) | (simp [pairs_len]; done))), .inr ((by first | rfl | exact sl_eq (by simp [pairs_len]))), trivial⟩, ⟨.inr rfl, .inr rfl, .inr rfl, .inr rfl, .inr rfl, .inr rfl, .inr rfl, trivial⟩⟩
      ·first | omega | (dsimp only; omega) | (simp; omega)
      ·exact ⟨by first | omega | (dsimp only; done) | (dsimp only; omega) | (simp; omega), by first | omega | (dsimp only; done) | (dsimp only; omega) | (simp; omega), by first | omega | (dsimp only; done) | (dsimp only; omega) | (simp; omega), hst.symm.trans hres⟩
     ·have h2 : ¬ v ≤ y := by simpa using hc50
      have hst := partS_sw (acc := acc) hlt (by rw [hxd]; exact h1) (by rw [hyd]; exact h2)
      have hne : i ≠ e1 := fun h => by subst h; rw [hx] at hy; cases hy; omega
      refine E_seq ?_
      refine E_region' (L := [0, 1, 2, 3, 4, 5, 6]) rfl ?_
      refine xmv ?_
      refine xmv ?_
      refine xmv ?_
      refine x_pure rfl rfl rfl (L_build rfl bd_120 rfl rfl) ?_
      refine EOps_go rfl rfl (Heavy.op (H_bslice_ro rfl rfl (by decide) sl_99 ty_120 za_120 ⟨rfl, by decide⟩ (by decide) rfl rfl rfl rfl ?_))
      refine EOps_go rfl rfl (EOp_append (news := pairs [((i : Int), (e1 : Int))]) rfl rfl (by decide) sl_99 ty_120 by_120 za_120 ⟨rfl, by decide⟩ rfl (by first | rfl | assumption) (by first | assumption | exact ints_len _ | exact pairs_len _ | exact quads_len _ | exact quints_len _ | exact bools_len _ | (simp [ints_len, bools_len, pairs_len, quads_len, quints_len, part_len, *]; done) | (simp [ints_len, bools_len, pairs_len, quads_len, quints_len]; omega) | rfl) (by first | (refine lend_whole rfl ?_; first | assumption | exact ints_len _ | exact pairs_len _ | exact quads_len _ | exact quints_len _ | exact bools_len _ | (simp [ints_len, bools_len, pairs_len, quads_len, quints_len, part_len, *]; done) | (simp [ints_len, bools_len, pairs_len, quads_len, quints_len]; omega) | rfl) | rfl | simp [E.lend, lendC]) (by first | exact ints_row _ | exact pairs_row _ | exact quads_row _ | exact quints_row _ | exact bools_row _ | (intro r hr; simp [chunk] at hr; subst hr; exact ⟨rfl, rfl⟩)) (by simp [ints_len, bools_len, pairs_len, quads_len, quints_len, chunk]; omega) ?_)
      refine xas ?_
      refine EOps_nil ?_
      refine E_seq ?_
      refine E_region' (L := [0, 1, 2]) rfl ?_
      refine xmv ?_
      refine x_pure rfl rfl rfl (by first | exact l_add rfl rfl rfl | exact L_bin rfl rfl rfl rfl) ?_
      refine xas ?_
      refine EOps_nil ?_
      refine E_region' (L := [0, 1, 2]) rfl ?_
      refine xmv ?_
      refine x_pure rfl rfl rfl (by first | exact l_sub rfl rfl rfl | exact L_bin rfl rfl rfl rfl) ?_
      refine xas ?_
      refine EOps_nil ?_
      refine ⟨(i + 1, e1, acc ++ [((i : Int), (e1 : Int))]), ?_, ?_, by first | rfl | (simp only [pairs_app]; rfl) | (simp [pairs]; done), ⟨.inr (int_eq (by first | rfl | omega | (dsimp only; done) | (dsimp only; omega) | (simp [pairs_len]; done))), .inr (int_eq (by first | rfl | omega | (dsimp only; done) | (dsimp only; omega) | (simp [pairs_len]; done))), .inr ((by first | rfl | exact sl_eq (by simp [pairs_len]))), trivial⟩, ⟨.inr rfl, .inr rfl, .inr rfl, .inr rfl, .inr rfl, .inr rfl, .inr rfl, trivial⟩⟩
      ·first | omega | (dsimp only; omega) | (simp; omega)
      ·exact ⟨by first | omega | (dsimp only; done) | (dsimp only; omega) | (simp; omega), by first | omega | (dsimp only; done) | (dsimp only; omega) | (simp; omega), by first | omega | (dsimp only; done) | (dsimp only; omega) | (simp; omega), hst.symm.trans hres⟩
   ·have hge : ¬ i < e' := by simp at hc30; omega
    rw [partS_end hge] at hres
    refine E_exit ?_
    refine E_seq ?_
    refine E_region' (L := [0, 1, 2, 3]) rfl ?_
    refine xmv ?_
    refine xmv ?_
    refine xas ?_
    refine xas ?_
    refine EOps_nil ?_
    refine E_ret ?_
    exact ⟨_, [0], rfl, rfl, by rw [← hres]; rfl, by rw [← hres]; rfl⟩

set_option maxRecDepth 20000 in
set_option maxHeartbeats 4000000 in
theorem c_impl_Partition (xs : List Int) (a e : Nat) (v : Int) (hae : a ≤ e) (hex : e ≤ xs.length) (hb : xs.length ≤ 1048576) : EFn Tryz.prog 81 [.c (.ro (ints xs)), .c (.sc (.int .i64 (a : Int))), .c (.sc (.int .i64 (e : Int))), .c (.sc (.int .i64 v))] [] (fun r S => r = prtT (partS xs v a e []) ∧ S = [.row 120 2 (pairs (partS xs v a e []).1)]) := by
 refine E_fn Tryz.func81 rfl (Nat.le_of_ble_eq_true rfl) ?_
 refine E_seq ?_
 refine E_region' (L := [0, 1]) rfl ?_
 refine xas ?_
 refine xas ?_
 refine EOps_nil ?_
 refine E_seq ?_
 refine E_seq ?_
 refine E_region' (L := [0, 1, 2, 3, 4, 5, 6, 7, 8, 9, 10, 11, 12]) rfl ?_
 refine xmv ?_
 refine x_pure rfl rfl rfl (L_bin rfl rfl rfl rfl) ?_
 refine xmv ?_
 refine EOps_split 19 (b := _) rfl (fun hg19 => ?_) (fun hg19 => ?_)
 ·simp at hg19; omega
 ·refine xmv ?_
  refine xmv ?_
  refine x_pure rfl rfl rfl (L_bin rfl rfl rfl rfl) ?_
  refine x_pure rfl rfl rfl (L_pick rfl rfl) ?_
  refine xmv ?_
  refine EOps_split 24 (b := _) rfl (fun hg24 => ?_) (fun hg24 => ?_)
  ·simp at hg24; omega
  ·refine xmv ?_
   refine xmv ?_
   refine x_pure rfl rfl rfl (l_len rfl sl_22) ?_
   refine x_pure rfl rfl rfl (L_bin rfl rfl rfl rfl) ?_
   refine x_pure rfl rfl rfl (L_pick rfl rfl) ?_
   refine EOps_nil ?_
   refine E_cond rfl (fun hc29 => ?_) (fun hc29 => ?_)
   ·simp [ints_len] at hc29; omega
   ·refine E_skip ?_
    refine E_seq ?_
    refine e_tidy_A36_0 [0, 1, 2, 3, 8, 9, 29] ?_
    refine E_region' (L := [0, 1, 2, 3, 4]) rfl ?_
    refine xmv ?_
    refine x_call rfl rfl rfl rfl rfl ca_57 (c_slices_Clone___int_int_ xs hb) ?_
    rintro r S ⟨rfl, rfl⟩
    refine EOps_go rfl rfl (Heavy.op (H_bslice rfl rfl (by decide) sl_99 ty_120 za_120 ⟨rfl, by decide⟩ (by decide) rfl rfl rfl rfl ?_))
    refine xas ?_
    refine xas ?_
    refine EOps_nil ?_
    refine E_seq ?_
    refine E_region' (L := [0, 1, 2, 3, 4]) rfl ?_
    refine xmv ?_
    refine xmv ?_
    refine x_pure rfl rfl rfl (by first | exact l_sub rfl rfl rfl | exact L_bin rfl rfl rfl rfl) ?_
    refine xas ?_
    refine xas ?_
    refine EOps_nil ?_
    refine E_seq ?_
    refine E_block ?_
    refine e_for_A36_1 (α := Nat × Nat × List (Int × Int) × List Int) [0, 1, 2, 3, 8, 9, 10, 29] (fun (i, e', acc, l) => [(12, .c (.sc (.int .i64 (i)))), (13, .c (.sc (.int .i64 (((e' : Int) - 1))))), (11, .c (.sl 1 0 acc.length acc.length))]) (fun (i, e', acc, l) => [.row 3 1 (ints l), .row 120 2 (pairs acc)]) (fun (i, e', acc, l) => i ≤ e' ∧ e' ≤ xs.length ∧ acc.length + (e' - i) ≤ 1048576 ∧ l.length = xs.length ∧ (∀ q, i ≤ q → q < e' → l.getD q 0 = xs.getD q 0) ∧ partS xs v i e' acc = partS xs v a e []) (fun (i, e', acc, l) => e' - i) ((a, e, [], xs)) ?_ (rfl) ⟨.inr rfl, .inr rfl, .inr rfl, trivial⟩ ?_
    ·exact ⟨hae, hex, by simp; omega, rfl, fun _ _ _ => rfl, rfl⟩
    rintro ⟨i, e', acc, l⟩ ⟨hie, hel, hac, hll, hld, hres⟩
    dsimp only
    have hpl : (pairs acc).length = acc.length := pairs_len _
    have hil : (ints l).length = xs.length := by rw [ints_len, hll]
    refine E_seq ?_
    refine E_seq ?_
    refine E_region' (L := [0, 1, 2]) rfl ?_
    refine xmv ?_
    refine xmv ?_
    refine x_pure rfl rfl rfl (L_bin rfl rfl rfl rfl) ?_
    refine EOps_nil ?_
    refine E_cond rfl (fun hc38 => ?_) (fun hc38 => ?_)
    ·have hlt : i < e' := by simp at hc38; omega
     obtain ⟨e1, rfl⟩ : ∃ e1, e' = e1 + 1 := ⟨e' - 1, by omega⟩
     rw [show ((e1 + 1 : Nat) : Int) - 1 = (e1 : Int) by omega]
     obtain ⟨x, hx⟩ := at_lt (l := l) (k := i) (by omega)
     obtain ⟨y, hy⟩ := at_lt (l := l) (k := e1) (by omega)
     have hxd := (hld i (Nat.le_refl _) hlt).symm.trans (getD_x hx)
     have hyd := (hld e1 (by omega) (by omega)).symm.trans (getD_x hy)
     refine E_skip ?_
     refine E_block ?_
     refine E_seq ?_
     refine e_tidy_A36_0 [0, 1, 2, 3, 8, 9, 10, 11, 12, 13, 14, 15, 16, 29, 38, 48] ?_
     refine E_region' (L := [0, 1, 2, 3, 4, 5, 6, 7, 8, 9, 10, 11]) rfl ?_
     refine xmv ?_
     refine xmv ?_
     refine xmv ?_
     refine xmv ?_
     refine x_call rfl rfl rfl rfl rfl ca_93 (c_impl_move l i e1 v x y hx hy ⟨by omega, by omega⟩) ?_
     rintro r S ⟨rfl, rfl⟩
     refine xmv ?_
     refine x_pure rfl rfl rfl (L_extract rfl rfl) ?_
     refine x_pure rfl rfl rfl (L_extract rfl rfl) ?_
     refine x_pure rfl rfl rfl (L_extract rfl rfl) ?_
     refine xas ?_
     refine xas ?_
     refine xas ?_
     refine EOps_nil ?_
     refine E_seq ?_
     refine E_seq ?_
     refine E_region' (L := [0]) rfl ?_
     refine xmv ?_
     refine EOps_nil ?_
     refine E_cond rfl (fun hc48 => ?_) (fun hc48 => ?_)
     ·have h1 : ¬ x < v := by simp [mvB] at hc48; omega
      have h2 : ¬ v ≤ y := by simp [mvB] at hc48; omega
      have hst := partS_sw (acc := acc) hlt (by rw [hxd]; exact h1) (by rw [hyd]; exact h2)
      have hne : i ≠ e1 := fun h => by subst h; rw [hx] at hy; cases hy; omega
      have hi2 : mvI x y v i = ((i + 1 : Nat) : Int) := by simp [mvI, h1, h2]
      have he2 : mvJ x v e1 = (e1 : Int) - 1 := by simp [mvJ, h1]
      have hy2 : ∀ z, ((ints l).set i z)[e1]? = some [T.sc (.int .i64 y)] := fun z => by rw [List.getElem?_set_ne hne]; exact ints_at hy
      refine E_seq ?_
      refine E_drawT mixed ?_
      refine t_old 0 rfl rfl rfl (L_move rfl) ?_
      refine t_old 1 rfl rfl rfl (L_move rfl) ?_
      refine t_old 2 rfl rfl rfl (L_move rfl) ?_
      refine t_old 3 rfl rfl rfl (L_move rfl) ?_
      refine t_old 4 rfl rfl rfl (L_move rfl) ?_
      refine t_old 5 rfl rfl rfl (L_move rfl) ?_
      refine t_old 6 rfl rfl rfl (L_index rfl rfl (by first | exact i_ro sl_22 ty_3 | exact i_sl sl_22 ty_3)) ?_
      refine t_light 7 rfl rfl rfl (L_load rfl (by first | exact d_bp ty_3 | exact ld_rp ty_3 rfl | exact d_ep ty_3)) ?_
      refine t_old 8 rfl rfl rfl (L_move rfl) ?_
      refine t_old 9 rfl rfl rfl (L_move rfl) ?_
      refine t_old 10 rfl rfl rfl (L_index rfl rfl (by first | exact i_ro sl_22 ty_3 | exact i_sl sl_22 ty_3)) ?_
      refine t_light 11 rfl rfl rfl (L_load rfl (by first | exact d_bp ty_3 | exact ld_rp ty_3 rfl | exact d_ep ty_3)) ?_
      refine t_old 12 rfl rfl rfl (L_index rfl rfl (by first | exact i_ro sl_22 ty_3 | exact i_sl sl_22 ty_3)) ?_
      refine t_turn 13 rfl rfl (EOp_store rfl rfl rfl (by first | exact s_bp ty_3 | exact s_ep ty_3) ?_)
      refine t_old 14 rfl rfl rfl (L_index rfl rfl (by first | exact i_ro sl_22 ty_3 | exact i_sl sl_22 ty_3)) ?_
      refine t_turn 15 rfl rfl (EOp_store rfl rfl rfl (s_ep (row := [T.sc (.int .i64 y)]) ty_3 (hr := by simp only [Int.toNat_natCast, Nat.zero_add]; exact hy2 _)) ?_)
      refine T_done (by kernel_rfl) ?_
      refine E_region' (L := [0, 1, 2, 3, 4, 5, 6]) rfl ?_
      refine xmv ?_
      refine xmv ?_
      refine xmv ?_
      refine x_pure rfl rfl rfl (L_build rfl bd_120 rfl rfl) ?_
      refine EOps_go rfl rfl (Heavy.op (H_bslice_ro rfl rfl (by decide) sl_99 ty_120 za_120 ⟨rfl, by decide⟩ (by decide) rfl rfl rfl rfl ?_))
      refine EOps_go rfl rfl (EOp_append (news := pairs [((i : Int), (e1 : Int))]) rfl rfl (by decide) sl_99 ty_120 by_120 za_120 ⟨rfl, by decide⟩ rfl (by first | rfl | assumption) (by first | assumption | exact ints_len _ | exact pairs_len _ | exact quads_len _ | exact quints_len _ | exact bools_len _ | (simp [ints_len, bools_len, pairs_len, quads_len, quints_len, part_len, *]; done) | (simp [ints_len, bools_len, pairs_len, quads_len, quints_len]; omega) | rfl) (by first | (refine lend_whole rfl ?_; first | assumption | exact ints_len _ | exact pairs_len _ | exact quads_len _ | exact quints_len _ | exact bools_len _ | (simp [ints_len, bools_len, pairs_len, quads_len, quints_len, part_len, *]; done) | (simp [ints_len, bools_len, pairs_len, quads_len, quints_len]; omega) | rfl) | rfl | simp [E.lend, lendC]) (by first | exact ints_row _ | exact pairs_row _ | exact quads_row _ | exact quints_row _ | exact bools_row _ | (intro r hr; simp [chunk] at hr; subst hr; exact ⟨rfl, rfl⟩)) (by simp [ints_len, bools_len, pairs_len, quads_len, quints_len, chunk]; omega) ?_)
      refine xas ?_
      refine EOps_nil ?_
      refine E_region' (L := [0, 1, 2, 3]) rfl ?_
      refine xmv ?_
      refine xmv ?_
      refine xas ?_
      refine xas ?_
      refine EOps_nil ?_
      refine ⟨(i + 1, e1, acc ++ [((i : Int), (e1 : Int))], swp l ((i : Int), (e1 : Int))), ?_, ?_, by first | rfl | (rw [← set_set_swp hx hy, ← pairs_app]; simp only [Int.toNat_natCast, Nat.zero_add]; rfl), ⟨.inr (int_eq (by first | rfl | omega | (dsimp only; done) | (dsimp only; omega) | (simp; done) | (dsimp only; exact hi2.symm) | (dsimp only; exact hi2))), .inr (int_eq (by first | rfl | omega | (dsimp only; done) | (dsimp only; omega) | (simp; done) | (dsimp only; exact he2.symm) | (dsimp only; exact he2))), .inr ((by first | rfl | exact sl_eq (by simp [pairs_len]))), trivial⟩, ⟨.inr rfl, .inr rfl, .inr rfl, .inr rfl, .inr rfl, .inr rfl, .inr rfl, .inr rfl, trivial⟩⟩
      ·first | omega | (dsimp only; omega) | (simp; omega)
      ·first | exact ⟨hie2, by dsimp only; omega, by dsimp only; omega, hll, fun q h1 h2 => hld q (by dsimp only at *; omega) (by dsimp only at *; omega), hst.symm.trans hres⟩ | exact ⟨by dsimp only; omega, by dsimp only; omega, by simp; omega, (swp_len _ _).trans hll, fun q h1 h2 => (swp_in hne (by omega) (by omega) (by dsimp only at *; omega) (by dsimp only at *; omega)).trans (hld q (by dsimp only at *; omega) (by dsimp only at *; omega)), hst.symm.trans hres⟩
     ·have hnx : ∃ i2 e2 : Nat, mvI x y v i = i2 ∧ mvJ x v e1 = (e2 : Int) - 1 ∧ i2 ≤ e2 ∧ e2 ≤ e1 + 1 ∧ i ≤ i2 ∧ e2 - i2 < e1 + 1 - i ∧ partS xs v i (e1 + 1) acc = partS xs v i2 e2 acc := by
       by_cases h1 : x < v
       ·exact ⟨i + 1, e1 + 1, by simp [mvI, h1], by simp [mvJ, h1], by omega, by omega, by omega, by omega, partS_lt hlt (by rw [hxd]; exact h1)⟩
       ·have h2 : v ≤ y := by simp [mvB] at hc48; omega
        exact ⟨i, e1, by simp [mvI, h1, h2], by simp [mvJ, h1], by omega, by omega, by omega, by omega, partS_ge hlt (by rw [hxd]; exact h1) (by rw [hyd]; exact h2)⟩
      obtain ⟨i2, e2, hi2, he2, hie2, hee2, hii2, hlt2, hst⟩ := hnx
      refine E_skip ?_
      refine E_region' (L := [0, 1, 2, 3]) rfl ?_
      refine xmv ?_
      refine xmv ?_
      refine xas ?_
      refine xas ?_
      refine EOps_nil ?_
      refine ⟨(i2, e2, acc, l), ?_, ?_, by first | rfl | (rw [← set_set_swp hx hy, ← pairs_app]; simp only [Int.toNat_natCast, Nat.zero_add]; rfl), ⟨.inr (int_eq (by first | rfl | omega | (dsimp only; done) | (dsimp only; omega) | (simp; done) | (dsimp only; exact hi2.symm) | (dsimp only; exact hi2))), .inr (int_eq (by first | rfl | omega | (dsimp only; done) | (dsimp only; omega) | (simp; done) | (dsimp only; exact he2.symm) | (dsimp only; exact he2))), .inr ((by first | rfl | exact sl_eq (by simp [pairs_len]))), trivial⟩, ⟨.inr rfl, .inr rfl, .inr rfl, .inr rfl, .inr rfl, .inr rfl, .inr rfl, .inr rfl, trivial⟩⟩
      ·first | omega | (dsimp only; omega) | (simp; omega)
      ·first | exact ⟨hie2, by dsimp only; omega, by dsimp only; omega, hll, fun q h1 h2 => hld q (by dsimp only at *; omega) (by dsimp only at *; omega), hst.symm.trans hres⟩ | exact ⟨by dsimp only; omega, by dsimp only; omega, by simp; omega, (swp_len _ _).trans hll, fun q h1 h2 => (swp_in hne (by omega) (by omega) (by dsimp only at *; omega) (by dsimp only at *; omega)).trans (hld q (by dsimp only at *; omega) (by dsimp only at *; omega)), hst.symm.trans hres⟩
    ·have hge : ¬ i < e' := by simp at hc38; omega
     rw [partS_end hge] at hres
     refine E_exit ?_
     refine E_seq ?_
     refine E_region' (L := [0, 1, 2, 3]) rfl ?_
     refine xmv ?_
     refine xmv ?_
     refine xas ?_
     refine xas ?_
     refine EOps_nil ?_
     refine E_ret ?_
     exact ⟨_, [1], rfl, rfl, by rw [← hres]; rfl, by rw [← hres]; rfl⟩

end Go.Proofs.YthnadkagchbhbaaGreat.E
