/- Walks through functions, by program out of the session's annotations. -/
import Derived.Test.YtkaikajjhhnifaaA29
import Derived.Test.YtkaikajjhhnifaaF3
namespace Go.Proofs.Ytkaikajjhhnifaa.E
open Go Go.RowKit Go.Proofs
set_option linter.unusedVariables false
set_option linter.unusedSimpArgs false

def addI (p : Pnd) (x : Int × Int) : Pnd := ⟨p.ins ++ [x], p.del⟩
def addIok (c : Crk) (p : Pnd) (x : Int × Int) : Bool := isPnd c p && isPnd c (addI p x)
def addIr (c : Crk) (p : Pnd) (x : Int × Int) : Pnd := if addIok c p x = true then addI p x else p

set_option maxRecDepth 20000 in
set_option maxHeartbeats 2000000 in
theorem c_spec_l11Copy (p : Pnd) (h : p.ins.length ≤ 1048576 ∧ p.del.length ≤ 1048576) : EFn Try.prog 89 [.agg (pndC p)] [] (fun r S => r = .agg (pndO 0 p) ∧ S = pndR 3 50 p) := by
  refine E_fn Try.func89 rfl (Nat.le_of_ble_eq_true rfl) ?_
  refine E_G (n := 0) rfl ?_
  refine G_seq ?_
  refine G_region' (L := [0, 1]) rfl ?_
  refine x_box rfl rfl rfl rfl rfl ?_
  refine x_alloc rfl rfl rfl rfl za_46 ?_
  refine EOps_nil ?_
  refine G_seq ?_
  refine G_drawT mixed ?_
  refine t_old 1 rfl rfl rfl (l_field rfl fo_46_0) ?_
  refine t_light 2 rfl rfl rfl (L_load rfl (by first | exact d_bp ty_44 | exact ld_rp ty_44 rfl | exact d_ep ty_44)) ?_
  refine t_old 5 rfl rfl rfl (l_field rfl fo_46_1) ?_
  refine t_light 6 rfl rfl rfl (L_load rfl (by first | exact d_bp ty_22 | exact ld_rp ty_22 rfl | exact d_ep ty_22)) ?_
  refine t_fresh 2 [(⟨some (0, 3), 3, 6, 50⟩, _), (⟨some (4, 7), 7, 10, 3⟩, _)] [(3, .any), (6, .any), (7, .any), (10, .any)] [0, 3, 4, 7] ⟨.two rfl rfl rfl (by decide) (F_bslice rfl sl_44 ty_50) rfl rfl rfl (by decide) (f_append (news := pairs p.ins) (m := (p.ins).length) rfl sl_44 ty_50 by_50 za_50 (pairs_len _)), .two rfl rfl rfl (by decide) (F_bslice rfl sl_22 ty_3) rfl rfl rfl (by decide) (f_append (news := ints p.del) (m := (p.del).length) rfl sl_22 ty_3 by_3 za_3 (ints_len _)), trivial⟩ ?_
  refine fk_cons ?_
  rintro r S ⟨rfl, rfl⟩
  refine fk_cons ?_
  rintro r S ⟨rfl, rfl⟩
  refine fk_nil ?_
  refine t_pure 8 rfl rfl rfl (L_build rfl bd_46 rfl rfl) ?_
  refine t_turn 9 rfl rfl (EOp_store rfl rfl rfl (by first | exact s_bp ty_46 | exact s_ep ty_46) ?_)
  refine T_done (by kernel_rfl) ?_
  refine G_ret ?_
  exact ⟨_, [2, 3], rfl, rfl, rfl, rfl⟩

set_option maxRecDepth 20000 in
set_option maxHeartbeats 2000000 in
theorem c_spec_AddInsert (c : Crk) (p : Pnd) (x : Int × Int) (hb : c.rows.length ≤ 1048576 ∧ p.ins.length ≤ 1048576 ∧ p.del.length ≤ 1048576) : EFn Try.prog 25 [.agg (crkC c), .agg (pndC p), .agg [.sc (.int .i64 x.1), .sc (.int .i64 x.2)]] [] (fun r S => r = .tup [(true, pndO 0 (addIr c p x)), (false, [.sc (.bool (addIok c p x))])] ∧ S = pndR 3 50 (addIr c p x)) := by
  refine E_fn Try.func25 rfl (Nat.le_of_ble_eq_true rfl) ?_
  refine E_seq ?_
  refine E_region' (L := [0, 1, 2, 3, 4]) rfl ?_
  refine x_box rfl rfl rfl rfl rfl ?_
  refine x_box rfl rfl rfl rfl rfl ?_
  refine x_box rfl rfl rfl rfl rfl ?_
  refine x_alloc rfl rfl rfl rfl za_46 ?_
  refine x_pure rfl rfl rfl (L_assign rfl) ?_
  refine EOps_nil ?_
  refine E_seq ?_
  refine e_tidy [0, 1, 2, 3, 4, 5, 6, 7] ?_ (hb := by simp only [E.keepOf, E.get, E.ev, E.cv, E.fill', E.fill, E.slotsOf, Res.sh, AC.sh, AC.sh.shs, AV.sh, E.splice, List.map_cons, List.map_nil, List.cons_append, List.nil_append, List.append_nil, List.length_cons, List.length_nil, List.take_zero, List.drop_zero, List.take_succ_cons, List.drop_succ_cons, List.drop_nil, List.take_nil, List.set_cons_zero, List.set_cons_succ, Nat.zero_add, Nat.add_zero, Nat.reduceAdd, Nat.reduceSub, reduceIte, Nat.reduceEqDiff, E.back, E.backR, E.ix, Res.un, AC.un, AC.un.uns, AV.un, E.un, Option.map_some, Option.map_none, Option.getD_some, List.getElem?_cons_zero, List.getElem?_cons_succ, List.getElem?_nil, pairs_app, pairs_lenApp, pndO, pndR]; rfl) (hR := by (try simp only [E.keepOf, E.get, E.ev, E.cv, E.fill', E.fill, E.slotsOf, Res.sh, AC.sh, AC.sh.shs, AV.sh, E.splice, List.map_cons, List.map_nil, List.cons_append, List.nil_append, List.append_nil, List.length_cons, List.length_nil, List.take_zero, List.drop_zero, List.take_succ_cons, List.drop_succ_cons, List.drop_nil, List.take_nil, List.set_cons_zero, List.set_cons_succ, Nat.zero_add, Nat.add_zero, Nat.reduceAdd, Nat.reduceSub, reduceIte, Nat.reduceEqDiff, E.back, E.backR, E.ix, Res.un, AC.un, AC.un.uns, AV.un, E.un, Option.map_some, Option.map_none, Option.getD_some, List.getElem?_cons_zero, List.getElem?_cons_succ, List.getElem?_nil, pairs_app, pairs_lenApp, pndO, pndR]); rfl)
  refine E_region' (L := [0, 1, 2, 3]) rfl ?_
  refine x_light rfl rfl rfl (L_load rfl (by first | exact d_bp ty_46 | exact ld_rp ty_46 rfl | exact d_ep ty_46)) ?_
  refine x_call rfl rfl rfl rfl rfl ca_89 (c_spec_l11Copy p ⟨by omega, hb.2.2⟩) ?_
  rintro r S ⟨rfl, rfl⟩
  refine x_alloc rfl rfl rfl rfl za_46 ?_
  refine EOps_go rfl rfl (EOp_store rfl rfl rfl (by first | exact s_bp ty_46 | exact s_ep ty_46) ?_)
  refine EOps_nil ?_
  refine E_seq ?_
  refine E_region' (L := [0, 1, 2, 3, 4, 5, 6]) rfl ?_
  refine x_pure rfl rfl rfl (l_field rfl fo_46_0) ?_
  refine x_light rfl rfl rfl (L_load rfl (by first | exact d_bp ty_44 | exact ld_rp ty_44 rfl | exact d_ep ty_44)) ?_
  refine x_light rfl rfl rfl (L_load rfl (by first | exact d_bp ty_50 | exact ld_rp ty_50 rfl | exact d_ep ty_50)) ?_
  refine EOps_go rfl rfl (Heavy.op (H_bslice_ro rfl rfl (by decide) sl_44 ty_50 za_50 ⟨rfl, by decide⟩ (by decide) rfl rfl rfl rfl ?_))
  refine EOps_go rfl rfl (EOp_append (news := pairs [x]) rfl rfl (by decide) sl_44 ty_50 by_50 za_50 ⟨rfl, by decide⟩ rfl (by first | rfl | assumption) (by first | assumption | exact ints_len _ | exact pairs_len _ | exact quads_len _ | exact quints_len _ | exact bools_len _ | (simp [ints_len, bools_len, pairs_len, quads_len, quints_len, part_len, *]; done) | (simp [ints_len, bools_len, pairs_len, quads_len, quints_len]; omega) | rfl) (by first | (refine lend_whole rfl ?_; first | assumption | exact ints_len _ | exact pairs_len _ | exact quads_len _ | exact quints_len _ | exact bools_len _ | (simp [ints_len, bools_len, pairs_len, quads_len, quints_len, part_len, *]; done) | (simp [ints_len, bools_len, pairs_len, quads_len, quints_len]; omega) | rfl) | rfl | simp [E.lend, lendC]) (by first | exact ints_row _ | exact pairs_row _ | exact quads_row _ | exact quints_row _ | exact bools_row _ | (intro r hr; simp [chunk] at hr; subst hr; exact ⟨rfl, rfl⟩)) (by simp [ints_len, bools_len, pairs_len, quads_len, quints_len, chunk]; omega) ?_)
  refine x_pure rfl rfl rfl (l_field rfl fo_46_0) ?_
  refine EOps_go rfl rfl (EOp_store rfl rfl rfl (by first | exact s_bp ty_44 | exact s_ep ty_44) ?_)
  refine EOps_nil ?_
  refine E_seq ?_
  refine E_seq ?_
  refine e_tidy [0, 1, 2, 3, 4, 5, 6, 7, 8] ?_ (hb := by simp only [E.keepOf, E.get, E.ev, E.cv, E.fill', E.fill, E.slotsOf, Res.sh, AC.sh, AC.sh.shs, AV.sh, E.splice, List.map_cons, List.map_nil, List.cons_append, List.nil_append, List.append_nil, List.length_cons, List.length_nil, List.take_zero, List.drop_zero, List.take_succ_cons, List.drop_succ_cons, List.drop_nil, List.take_nil, List.set_cons_zero, List.set_cons_succ, Nat.zero_add, Nat.add_zero, Nat.reduceAdd, Nat.reduceSub, reduceIte, Nat.reduceEqDiff, E.back, E.backR, E.ix, Res.un, AC.un, AC.un.uns, AV.un, E.un, Option.map_some, Option.map_none, Option.getD_some, List.getElem?_cons_zero, List.getElem?_cons_succ, List.getElem?_nil, pairs_app, pairs_lenApp, pndO, pndR]; rfl) (hR := by (try simp only [E.keepOf, E.get, E.ev, E.cv, E.fill', E.fill, E.slotsOf, Res.sh, AC.sh, AC.sh.shs, AV.sh, E.splice, List.map_cons, List.map_nil, List.cons_append, List.nil_append, List.append_nil, List.length_cons, List.length_nil, List.take_zero, List.drop_zero, List.take_succ_cons, List.drop_succ_cons, List.drop_nil, List.take_nil, List.set_cons_zero, List.set_cons_succ, Nat.zero_add, Nat.add_zero, Nat.reduceAdd, Nat.reduceSub, reduceIte, Nat.reduceEqDiff, E.back, E.backR, E.ix, Res.un, AC.un, AC.un.uns, AV.un, E.un, Option.map_some, Option.map_none, Option.getD_some, List.getElem?_cons_zero, List.getElem?_cons_succ, List.getElem?_nil, pairs_app, pairs_lenApp, pndO, pndR]); rfl)
  refine E_region' (L := [0, 1, 2, 3, 4, 5, 6, 7, 8, 9]) rfl ?_
  refine x_light rfl rfl rfl (L_load rfl (by first | exact d_bp ty_31 | exact ld_rp ty_31 rfl | exact d_ep ty_31)) ?_
  refine x_light rfl rfl rfl (L_load rfl (by first | exact d_bp ty_46 | exact ld_rp ty_46 rfl | exact d_ep ty_46)) ?_
  refine x_call rfl rfl rfl rfl rfl ca_90 (c_spec_IsPending c p ⟨hb.1, by omega⟩) ?_
  rintro r S ⟨rfl, rfl⟩
  refine x_pure rfl rfl rfl (L_not rfl rfl) ?_
  refine x_pure rfl rfl rfl (L_move rfl) ?_
  refine EOps_split 21 (b := _) rfl (fun hg21 => ?_) (fun hg21 => ?_)
  · refine x_skip rfl rfl rfl ?_
    refine x_skip rfl rfl rfl ?_
    refine x_skip rfl rfl rfl ?_
    refine x_skip rfl rfl rfl ?_
    refine x_pure rfl rfl rfl (L_pick rfl rfl) ?_
    refine EOps_nil ?_
    refine E_cond rfl (fun hc26 => ?_) (fun hc26 => ?_)
    · have hf : addIok c p x = false := by
        simp [addIok]
        simp_all
      refine E_seq ?_
      refine e_tidy [0, 1, 2, 3, 4, 5, 6, 7, 8, 26] ?_ (hb := by simp only [E.keepOf, E.get, E.ev, E.cv, E.fill', E.fill, E.slotsOf, Res.sh, AC.sh, AC.sh.shs, AV.sh, E.splice, List.map_cons, List.map_nil, List.cons_append, List.nil_append, List.append_nil, List.length_cons, List.length_nil, List.take_zero, List.drop_zero, List.take_succ_cons, List.drop_succ_cons, List.drop_nil, List.take_nil, List.set_cons_zero, List.set_cons_succ, Nat.zero_add, Nat.add_zero, Nat.reduceAdd, Nat.reduceSub, reduceIte, Nat.reduceEqDiff, E.back, E.backR, E.ix, Res.un, AC.un, AC.un.uns, AV.un, E.un, Option.map_some, Option.map_none, Option.getD_some, List.getElem?_cons_zero, List.getElem?_cons_succ, List.getElem?_nil, pairs_app, pairs_lenApp, pndO, pndR]; rfl) (hR := by (try simp only [E.keepOf, E.get, E.ev, E.cv, E.fill', E.fill, E.slotsOf, Res.sh, AC.sh, AC.sh.shs, AV.sh, E.splice, List.map_cons, List.map_nil, List.cons_append, List.nil_append, List.append_nil, List.length_cons, List.length_nil, List.take_zero, List.drop_zero, List.take_succ_cons, List.drop_succ_cons, List.drop_nil, List.take_nil, List.set_cons_zero, List.set_cons_succ, Nat.zero_add, Nat.add_zero, Nat.reduceAdd, Nat.reduceSub, reduceIte, Nat.reduceEqDiff, E.back, E.backR, E.ix, Res.un, AC.un, AC.un.uns, AV.un, E.un, Option.map_some, Option.map_none, Option.getD_some, List.getElem?_cons_zero, List.getElem?_cons_succ, List.getElem?_nil, pairs_app, pairs_lenApp, pndO, pndR]); rfl)
      refine E_region' (L := [0, 1, 2, 3]) rfl ?_
      refine x_light rfl rfl rfl (L_load rfl (by first | exact d_bp ty_46 | exact ld_rp ty_46 rfl | exact d_ep ty_46)) ?_
      refine x_call rfl rfl rfl rfl rfl ca_89 (c_spec_l11Copy p ⟨by omega, hb.2.2⟩) ?_
      rintro r S ⟨rfl, rfl⟩
      refine EOps_go rfl rfl (EOp_store rfl rfl rfl (by first | exact s_bp ty_46 | exact s_ep ty_46) ?_)
      refine x_pure rfl rfl rfl (L_assign rfl) ?_
      refine EOps_nil ?_
      refine E_ret ?_
      refine ⟨_, [7, 8], rfl, rfl, ?_, ?_⟩
      · simp [addIr, hf]; rfl
      · simp [addIr, hf]; rfl
    · exact Bool.noConfusion (hc26 : true = false)
  · refine x_light rfl rfl rfl (L_load rfl (by first | exact d_bp ty_31 | exact ld_rp ty_31 rfl | exact d_ep ty_31)) ?_
    refine x_light rfl rfl rfl (L_load rfl (by first | exact d_bp ty_46 | exact ld_rp ty_46 rfl | exact d_ep ty_46)) ?_
    refine x_call rfl rfl rfl rfl rfl ca_90 (c_spec_IsPending c (addI p x) ⟨hb.1, by simp [addI]; omega⟩) ?_
    rintro r S ⟨rfl, rfl⟩
    refine x_pure rfl rfl rfl (L_not rfl rfl) ?_
    refine x_pure rfl rfl rfl (L_pick rfl rfl) ?_
    refine EOps_nil ?_
    refine E_cond rfl (fun hc26 => ?_) (fun hc26 => ?_)
    · have hf : addIok c p x = false := by
        simp [addIok]
        simp_all
      refine E_seq ?_
      refine e_tidy [0, 1, 2, 3, 4, 5, 6, 7, 8, 26] ?_ (hb := by simp only [E.keepOf, E.get, E.ev, E.cv, E.fill', E.fill, E.slotsOf, Res.sh, AC.sh, AC.sh.shs, AV.sh, E.splice, List.map_cons, List.map_nil, List.cons_append, List.nil_append, List.append_nil, List.length_cons, List.length_nil, List.take_zero, List.drop_zero, List.take_succ_cons, List.drop_succ_cons, List.drop_nil, List.take_nil, List.set_cons_zero, List.set_cons_succ, Nat.zero_add, Nat.add_zero, Nat.reduceAdd, Nat.reduceSub, reduceIte, Nat.reduceEqDiff, E.back, E.backR, E.ix, Res.un, AC.un, AC.un.uns, AV.un, E.un, Option.map_some, Option.map_none, Option.getD_some, List.getElem?_cons_zero, List.getElem?_cons_succ, List.getElem?_nil, pairs_app, pairs_lenApp, pndO, pndR]; rfl) (hR := by (try simp only [E.keepOf, E.get, E.ev, E.cv, E.fill', E.fill, E.slotsOf, Res.sh, AC.sh, AC.sh.shs, AV.sh, E.splice, List.map_cons, List.map_nil, List.cons_append, List.nil_append, List.append_nil, List.length_cons, List.length_nil, List.take_zero, List.drop_zero, List.take_succ_cons, List.drop_succ_cons, List.drop_nil, List.take_nil, List.set_cons_zero, List.set_cons_succ, Nat.zero_add, Nat.add_zero, Nat.reduceAdd, Nat.reduceSub, reduceIte, Nat.reduceEqDiff, E.back, E.backR, E.ix, Res.un, AC.un, AC.un.uns, AV.un, E.un, Option.map_some, Option.map_none, Option.getD_some, List.getElem?_cons_zero, List.getElem?_cons_succ, List.getElem?_nil, pairs_app, pairs_lenApp, pndO, pndR]); rfl)
      refine E_region' (L := [0, 1, 2, 3]) rfl ?_
      refine x_light rfl rfl rfl (L_load rfl (by first | exact d_bp ty_46 | exact ld_rp ty_46 rfl | exact d_ep ty_46)) ?_
      refine x_call rfl rfl rfl rfl rfl ca_89 (c_spec_l11Copy p ⟨by omega, hb.2.2⟩) ?_
      rintro r S ⟨rfl, rfl⟩
      refine EOps_go rfl rfl (EOp_store rfl rfl rfl (by first | exact s_bp ty_46 | exact s_ep ty_46) ?_)
      refine x_pure rfl rfl rfl (L_assign rfl) ?_
      refine EOps_nil ?_
      refine E_ret ?_
      refine ⟨_, [7, 8], rfl, rfl, ?_, ?_⟩
      · simp [addIr, hf]; rfl
      · simp [addIr, hf]; rfl
    · have hf : addIok c p x = true := by
        simp [addIok]
        simp_all
      refine E_skip ?_
      refine E_seq ?_
      refine E_region' (L := [0, 1, 2]) rfl ?_
      refine x_light rfl rfl rfl (L_load rfl (by first | exact d_bp ty_46 | exact ld_rp ty_46 rfl | exact d_ep ty_46)) ?_
      refine EOps_go rfl rfl (EOp_store rfl rfl rfl (by first | exact s_bp ty_46 | exact s_ep ty_46) ?_)
      refine x_pure rfl rfl rfl (L_assign rfl) ?_
      refine EOps_nil ?_
      refine E_ret ?_
      refine ⟨_, [4, 5], rfl, rfl, ?_, ?_⟩
      · simp [addIr, hf, addI, pndO]; rfl
      · simp [addIr, hf, addI]; rfl

set_option maxRecDepth 20000 in
set_option maxHeartbeats 2000000 in
theorem c_impl_AddInsert_y (c : Crk) (p : Pnd) (x : Int × Int) (hb : c.rows.length ≤ 1048576 ∧ p.ins.length ≤ 1048576 ∧ p.del.length ≤ 1048576) (hf : addIok c p x = true) : EFn Try.prog 28 [.agg (crkC c), .agg (pndC p), .agg [.sc (.int .i64 x.1), .sc (.int .i64 x.2)]] [] (fun r S => r = .tup [(true, pndO 0 (addIr c p x)), (false, [.sc (.bool (addIok c p x))])] ∧ S = pndR 3 50 (addIr c p x)) := by
  refine E_fn Try.func28 rfl (Nat.le_of_ble_eq_true rfl) ?_
  have hok : isPnd c p = true ∧ isPnd c (addI p x) = true := by simpa [addIok] using hf
  refine E_seq ?_
  refine E_region' (L := [0, 1, 2, 3, 4]) rfl ?_
  refine x_box rfl rfl rfl rfl rfl ?_
  refine x_box rfl rfl rfl rfl rfl ?_
  refine x_box rfl rfl rfl rfl rfl ?_
  refine x_alloc rfl rfl rfl rfl za_46 ?_
  refine x_pure rfl rfl rfl (L_assign rfl) ?_
  refine EOps_nil ?_
  refine E_seq ?_
  refine e_tidy [0, 1, 2, 3, 4, 5, 6, 7] ?_ (hb := by simp only [E.keepOf, E.get, E.ev, E.cv, E.fill', E.fill, E.slotsOf, Res.sh, AC.sh, AC.sh.shs, AV.sh, E.splice, List.map_cons, List.map_nil, List.cons_append, List.nil_append, List.append_nil, List.length_cons, List.length_nil, List.take_zero, List.drop_zero, List.take_succ_cons, List.drop_succ_cons, List.drop_nil, List.take_nil, List.set_cons_zero, List.set_cons_succ, Nat.zero_add, Nat.add_zero, Nat.reduceAdd, Nat.reduceSub, reduceIte, Nat.reduceEqDiff, E.back, E.backR, E.ix, Res.un, AC.un, AC.un.uns, AV.un, E.un, Option.map_some, Option.map_none, Option.getD_some, List.getElem?_cons_zero, List.getElem?_cons_succ, List.getElem?_nil, pairs_app, pairs_lenApp, pndO, pndR]; rfl) (hR := by (try simp only [E.keepOf, E.get, E.ev, E.cv, E.fill', E.fill, E.slotsOf, Res.sh, AC.sh, AC.sh.shs, AV.sh, E.splice, List.map_cons, List.map_nil, List.cons_append, List.nil_append, List.append_nil, List.length_cons, List.length_nil, List.take_zero, List.drop_zero, List.take_succ_cons, List.drop_succ_cons, List.drop_nil, List.take_nil, List.set_cons_zero, List.set_cons_succ, Nat.zero_add, Nat.add_zero, Nat.reduceAdd, Nat.reduceSub, reduceIte, Nat.reduceEqDiff, E.back, E.backR, E.ix, Res.un, AC.un, AC.un.uns, AV.un, E.un, Option.map_some, Option.map_none, Option.getD_some, List.getElem?_cons_zero, List.getElem?_cons_succ, List.getElem?_nil, pairs_app, pairs_lenApp, pndO, pndR]); rfl)
  refine E_region' (L := [0, 1, 2, 3]) rfl ?_
  refine x_light rfl rfl rfl (L_load rfl (by first | exact d_bp ty_46 | exact ld_rp ty_46 rfl | exact d_ep ty_46)) ?_
  refine x_call rfl rfl rfl rfl rfl ca_92 (c_impl_copyPending p ⟨by omega, hb.2.2⟩) ?_
  rintro r S ⟨rfl, rfl⟩
  refine x_alloc rfl rfl rfl rfl za_46 ?_
  refine EOps_go rfl rfl (EOp_store rfl rfl rfl (by first | exact s_bp ty_46 | exact s_ep ty_46) ?_)
  refine EOps_nil ?_
  refine E_seq ?_
  refine E_region' (L := [0, 1, 2, 3, 4, 5, 6]) rfl ?_
  refine x_pure rfl rfl rfl (l_field rfl fo_46_0) ?_
  refine x_light rfl rfl rfl (L_load rfl (by first | exact d_bp ty_44 | exact ld_rp ty_44 rfl | exact d_ep ty_44)) ?_
  refine x_light rfl rfl rfl (L_load rfl (by first | exact d_bp ty_50 | exact ld_rp ty_50 rfl | exact d_ep ty_50)) ?_
  refine EOps_go rfl rfl (Heavy.op (H_bslice_ro rfl rfl (by decide) sl_44 ty_50 za_50 ⟨rfl, by decide⟩ (by decide) rfl rfl rfl rfl ?_))
  refine EOps_go rfl rfl (EOp_append (news := pairs [x]) rfl rfl (by decide) sl_44 ty_50 by_50 za_50 ⟨rfl, by decide⟩ rfl (by first | rfl | assumption) (by first | assumption | exact ints_len _ | exact pairs_len _ | exact quads_len _ | exact quints_len _ | exact bools_len _ | (simp [ints_len, bools_len, pairs_len, quads_len, quints_len, part_len, *]; done) | (simp [ints_len, bools_len, pairs_len, quads_len, quints_len]; omega) | rfl) (by first | (refine lend_whole rfl ?_; first | assumption | exact ints_len _ | exact pairs_len _ | exact quads_len _ | exact quints_len _ | exact bools_len _ | (simp [ints_len, bools_len, pairs_len, quads_len, quints_len, part_len, *]; done) | (simp [ints_len, bools_len, pairs_len, quads_len, quints_len]; omega) | rfl) | rfl | simp [E.lend, lendC]) (by first | exact ints_row _ | exact pairs_row _ | exact quads_row _ | exact quints_row _ | exact bools_row _ | (intro r hr; simp [chunk] at hr; subst hr; exact ⟨rfl, rfl⟩)) (by simp [ints_len, bools_len, pairs_len, quads_len, quints_len, chunk]; omega) ?_)
  refine x_pure rfl rfl rfl (l_field rfl fo_46_0) ?_
  refine EOps_go rfl rfl (EOp_store rfl rfl rfl (by first | exact s_bp ty_44 | exact s_ep ty_44) ?_)
  refine EOps_nil ?_
  refine E_seq ?_
  refine e_tidy [0, 1, 2, 3, 4, 5, 6, 7, 8] ?_ (hb := by simp only [E.keepOf, E.get, E.ev, E.cv, E.fill', E.fill, E.slotsOf, Res.sh, AC.sh, AC.sh.shs, AV.sh, E.splice, List.map_cons, List.map_nil, List.cons_append, List.nil_append, List.append_nil, List.length_cons, List.length_nil, List.take_zero, List.drop_zero, List.take_succ_cons, List.drop_succ_cons, List.drop_nil, List.take_nil, List.set_cons_zero, List.set_cons_succ, Nat.zero_add, Nat.add_zero, Nat.reduceAdd, Nat.reduceSub, reduceIte, Nat.reduceEqDiff, E.back, E.backR, E.ix, Res.un, AC.un, AC.un.uns, AV.un, E.un, Option.map_some, Option.map_none, Option.getD_some, List.getElem?_cons_zero, List.getElem?_cons_succ, List.getElem?_nil, pairs_app, pairs_lenApp, pndO, pndR]; rfl) (hR := by (try simp only [E.keepOf, E.get, E.ev, E.cv, E.fill', E.fill, E.slotsOf, Res.sh, AC.sh, AC.sh.shs, AV.sh, E.splice, List.map_cons, List.map_nil, List.cons_append, List.nil_append, List.append_nil, List.length_cons, List.length_nil, List.take_zero, List.drop_zero, List.take_succ_cons, List.drop_succ_cons, List.drop_nil, List.take_nil, List.set_cons_zero, List.set_cons_succ, Nat.zero_add, Nat.add_zero, Nat.reduceAdd, Nat.reduceSub, reduceIte, Nat.reduceEqDiff, E.back, E.backR, E.ix, Res.un, AC.un, AC.un.uns, AV.un, E.un, Option.map_some, Option.map_none, Option.getD_some, List.getElem?_cons_zero, List.getElem?_cons_succ, List.getElem?_nil, pairs_app, pairs_lenApp, pndO, pndR]); rfl)
  refine E_region' (L := [0, 1, 2, 3, 4, 5, 6, 7]) rfl ?_
  refine x_light rfl rfl rfl (L_load rfl (by first | exact d_bp ty_31 | exact ld_rp ty_31 rfl | exact d_ep ty_31)) ?_
  refine x_light rfl rfl rfl (L_load rfl (by first | exact d_bp ty_46 | exact ld_rp ty_46 rfl | exact d_ep ty_46)) ?_
  refine x_light rfl rfl rfl (L_load rfl (by first | exact d_bp ty_46 | exact ld_rp ty_46 rfl | exact d_ep ty_46)) ?_
  refine x_frame [4, 5] rfl rfl rfl rfl rfl ca_93 rfl (c_impl_replaced_y c p (addI p x) ⟨hb.1, by omega, by simp [addI]; omega⟩ hok.1 hok.2) ?_
  rintro r S ⟨r0, S0, ⟨rfl, rfl⟩, rfl, rfl⟩
  refine x_pure rfl rfl rfl (L_extract rfl rfl) ?_
  refine x_pure rfl rfl rfl (L_extract rfl rfl) ?_
  refine EOps_go rfl rfl (EOp_store rfl rfl rfl (by first | exact s_bp ty_46 | exact s_ep ty_46) ?_)
  refine x_pure rfl rfl rfl (L_assign rfl) ?_
  refine EOps_nil ?_
  refine E_ret ?_
  refine ⟨_, [4, 5], rfl, rfl, ?_, ?_⟩
  · simp [addIr, hf, addI, pndO]; rfl
  · simp [addIr, hf, addI]; rfl

set_option maxRecDepth 20000 in
set_option maxHeartbeats 2000000 in
theorem c_impl_AddInsert_n (c : Crk) (p : Pnd) (x : Int × Int) (hb : c.rows.length ≤ 1048576 ∧ p.ins.length ≤ 1048576 ∧ p.del.length ≤ 1048576) (hf : addIok c p x = false) : EFn Try.prog 28 [.agg (crkC c), .agg (pndC p), .agg [.sc (.int .i64 x.1), .sc (.int .i64 x.2)]] [] (fun r S => r = .tup [(true, pndO 0 (addIr c p x)), (false, [.sc (.bool (addIok c p x))])] ∧ S = pndR 3 50 (addIr c p x)) := by
  refine E_fn Try.func28 rfl (Nat.le_of_ble_eq_true rfl) ?_
  have hok : ¬ (isPnd c p = true ∧ isPnd c (addI p x) = true) := by
    rintro ⟨h1, h2⟩
    simp [addIok, h1, h2] at hf
  refine E_seq ?_
  refine E_region' (L := [0, 1, 2, 3, 4]) rfl ?_
  refine x_box rfl rfl rfl rfl rfl ?_
  refine x_box rfl rfl rfl rfl rfl ?_
  refine x_box rfl rfl rfl rfl rfl ?_
  refine x_alloc rfl rfl rfl rfl za_46 ?_
  refine x_pure rfl rfl rfl (L_assign rfl) ?_
  refine EOps_nil ?_
  refine E_seq ?_
  refine e_tidy [0, 1, 2, 3, 4, 5, 6, 7] ?_ (hb := by simp only [E.keepOf, E.get, E.ev, E.cv, E.fill', E.fill, E.slotsOf, Res.sh, AC.sh, AC.sh.shs, AV.sh, E.splice, List.map_cons, List.map_nil, List.cons_append, List.nil_append, List.append_nil, List.length_cons, List.length_nil, List.take_zero, List.drop_zero, List.take_succ_cons, List.drop_succ_cons, List.drop_nil, List.take_nil, List.set_cons_zero, List.set_cons_succ, Nat.zero_add, Nat.add_zero, Nat.reduceAdd, Nat.reduceSub, reduceIte, Nat.reduceEqDiff, E.back, E.backR, E.ix, Res.un, AC.un, AC.un.uns, AV.un, E.un, Option.map_some, Option.map_none, Option.getD_some, List.getElem?_cons_zero, List.getElem?_cons_succ, List.getElem?_nil, pairs_app, pairs_lenApp, pndO, pndR]; rfl) (hR := by (try simp only [E.keepOf, E.get, E.ev, E.cv, E.fill', E.fill, E.slotsOf, Res.sh, AC.sh, AC.sh.shs, AV.sh, E.splice, List.map_cons, List.map_nil, List.cons_append, List.nil_append, List.append_nil, List.length_cons, List.length_nil, List.take_zero, List.drop_zero, List.take_succ_cons, List.drop_succ_cons, List.drop_nil, List.take_nil, List.set_cons_zero, List.set_cons_succ, Nat.zero_add, Nat.add_zero, Nat.reduceAdd, Nat.reduceSub, reduceIte, Nat.reduceEqDiff, E.back, E.backR, E.ix, Res.un, AC.un, AC.un.uns, AV.un, E.un, Option.map_some, Option.map_none, Option.getD_some, List.getElem?_cons_zero, List.getElem?_cons_succ, List.getElem?_nil, pairs_app, pairs_lenApp, pndO, pndR]); rfl)
  refine E_region' (L := [0, 1, 2, 3]) rfl ?_
  refine x_light rfl rfl rfl (L_load rfl (by first | exact d_bp ty_46 | exact ld_rp ty_46 rfl | exact d_ep ty_46)) ?_
  refine x_call rfl rfl rfl rfl rfl ca_92 (c_impl_copyPending p ⟨by omega, hb.2.2⟩) ?_
  rintro r S ⟨rfl, rfl⟩
  refine x_alloc rfl rfl rfl rfl za_46 ?_
  refine EOps_go rfl rfl (EOp_store rfl rfl rfl (by first | exact s_bp ty_46 | exact s_ep ty_46) ?_)
  refine EOps_nil ?_
  refine E_seq ?_
  refine E_region' (L := [0, 1, 2, 3, 4, 5, 6]) rfl ?_
  refine x_pure rfl rfl rfl (l_field rfl fo_46_0) ?_
  refine x_light rfl rfl rfl (L_load rfl (by first | exact d_bp ty_44 | exact ld_rp ty_44 rfl | exact d_ep ty_44)) ?_
  refine x_light rfl rfl rfl (L_load rfl (by first | exact d_bp ty_50 | exact ld_rp ty_50 rfl | exact d_ep ty_50)) ?_
  refine EOps_go rfl rfl (Heavy.op (H_bslice_ro rfl rfl (by decide) sl_44 ty_50 za_50 ⟨rfl, by decide⟩ (by decide) rfl rfl rfl rfl ?_))
  refine EOps_go rfl rfl (EOp_append (news := pairs [x]) rfl rfl (by decide) sl_44 ty_50 by_50 za_50 ⟨rfl, by decide⟩ rfl (by first | rfl | assumption) (by first | assumption | exact ints_len _ | exact pairs_len _ | exact quads_len _ | exact quints_len _ | exact bools_len _ | (simp [ints_len, bools_len, pairs_len, quads_len, quints_len, part_len, *]; done) | (simp [ints_len, bools_len, pairs_len, quads_len, quints_len]; omega) | rfl) (by first | (refine lend_whole rfl ?_; first | assumption | exact ints_len _ | exact pairs_len _ | exact quads_len _ | exact quints_len _ | exact bools_len _ | (simp [ints_len, bools_len, pairs_len, quads_len, quints_len, part_len, *]; done) | (simp [ints_len, bools_len, pairs_len, quads_len, quints_len]; omega) | rfl) | rfl | simp [E.lend, lendC]) (by first | exact ints_row _ | exact pairs_row _ | exact quads_row _ | exact quints_row _ | exact bools_row _ | (intro r hr; simp [chunk] at hr; subst hr; exact ⟨rfl, rfl⟩)) (by simp [ints_len, bools_len, pairs_len, quads_len, quints_len, chunk]; omega) ?_)
  refine x_pure rfl rfl rfl (l_field rfl fo_46_0) ?_
  refine EOps_go rfl rfl (EOp_store rfl rfl rfl (by first | exact s_bp ty_44 | exact s_ep ty_44) ?_)
  refine EOps_nil ?_
  refine E_seq ?_
  refine e_tidy [0, 1, 2, 3, 4, 5, 6, 7, 8] ?_ (hb := by simp only [E.keepOf, E.get, E.ev, E.cv, E.fill', E.fill, E.slotsOf, Res.sh, AC.sh, AC.sh.shs, AV.sh, E.splice, List.map_cons, List.map_nil, List.cons_append, List.nil_append, List.append_nil, List.length_cons, List.length_nil, List.take_zero, List.drop_zero, List.take_succ_cons, List.drop_succ_cons, List.drop_nil, List.take_nil, List.set_cons_zero, List.set_cons_succ, Nat.zero_add, Nat.add_zero, Nat.reduceAdd, Nat.reduceSub, reduceIte, Nat.reduceEqDiff, E.back, E.backR, E.ix, Res.un, AC.un, AC.un.uns, AV.un, E.un, Option.map_some, Option.map_none, Option.getD_some, List.getElem?_cons_zero, List.getElem?_cons_succ, List.getElem?_nil, pairs_app, pairs_lenApp, pndO, pndR]; rfl) (hR := by (try simp only [E.keepOf, E.get, E.ev, E.cv, E.fill', E.fill, E.slotsOf, Res.sh, AC.sh, AC.sh.shs, AV.sh, E.splice, List.map_cons, List.map_nil, List.cons_append, List.nil_append, List.append_nil, List.length_cons, List.length_nil, List.take_zero, List.drop_zero, List.take_succ_cons, List.drop_succ_cons, List.drop_nil, List.take_nil, List.set_cons_zero, List.set_cons_succ, Nat.zero_add, Nat.add_zero, Nat.reduceAdd, Nat.reduceSub, reduceIte, Nat.reduceEqDiff, E.back, E.backR, E.ix, Res.un, AC.un, AC.un.uns, AV.un, E.un, Option.map_some, Option.map_none, Option.getD_some, List.getElem?_cons_zero, List.getElem?_cons_succ, List.getElem?_nil, pairs_app, pairs_lenApp, pndO, pndR]); rfl)
  refine E_region' (L := [0, 1, 2, 3, 4, 5, 6, 7]) rfl ?_
  refine x_light rfl rfl rfl (L_load rfl (by first | exact d_bp ty_31 | exact ld_rp ty_31 rfl | exact d_ep ty_31)) ?_
  refine x_light rfl rfl rfl (L_load rfl (by first | exact d_bp ty_46 | exact ld_rp ty_46 rfl | exact d_ep ty_46)) ?_
  refine x_light rfl rfl rfl (L_load rfl (by first | exact d_bp ty_46 | exact ld_rp ty_46 rfl | exact d_ep ty_46)) ?_
  refine x_frame [4, 5] rfl rfl rfl rfl rfl ca_93 rfl (c_impl_replaced_n c p (addI p x) ⟨hb.1, by omega, by simp [addI]; omega⟩ hb.2.2 hok) ?_
  rintro r S ⟨r0, S0, ⟨rfl, rfl⟩, rfl, rfl⟩
  refine x_pure rfl rfl rfl (L_extract rfl rfl) ?_
  refine x_pure rfl rfl rfl (L_extract rfl rfl) ?_
  refine EOps_go rfl rfl (EOp_store rfl rfl rfl (by first | exact s_bp ty_46 | exact s_ep ty_46) ?_)
  refine x_pure rfl rfl rfl (L_assign rfl) ?_
  refine EOps_nil ?_
  refine E_ret ?_
  refine ⟨_, [7, 8], rfl, rfl, ?_, ?_⟩
  · simp [addIr, hf]; rfl
  · simp [addIr, hf]; rfl

theorem c_impl_AddInsert (c : Crk) (p : Pnd) (x : Int × Int) (hb : c.rows.length ≤ 1048576 ∧ p.ins.length ≤ 1048576 ∧ p.del.length ≤ 1048576) : EFn Try.prog 28 [.agg (crkC c), .agg (pndC p), .agg [.sc (.int .i64 x.1), .sc (.int .i64 x.2)]] [] (fun r S => r = .tup [(true, pndO 0 (addIr c p x)), (false, [.sc (.bool (addIok c p x))])] ∧ S = pndR 3 50 (addIr c p x)) := by
  cases hf : addIok c p x
  · have := c_impl_AddInsert_n c p x hb hf
    rwa [hf] at this
  · have := c_impl_AddInsert_y c p x hb hf
    rwa [hf] at this

end Go.Proofs.Ytkaikajjhhnifaa.E
