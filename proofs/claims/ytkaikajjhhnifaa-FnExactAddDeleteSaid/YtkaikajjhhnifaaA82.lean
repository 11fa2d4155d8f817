/- Walks through functions, by program out of the session's annotations. -/
import Derived.Test.YtkaikajjhhnifaaA31
import Derived.Test.YtkaikajjhhnifaaA81
namespace Go.Proofs.Ytkaikajjhhnifaa.E
open Go Go.RowKit Go.Proofs
set_option linter.unusedVariables false
set_option linter.unusedSimpArgs false

set_option maxRecDepth 20000 in
set_option maxHeartbeats 4000000 in
theorem c_laws_FnExactAddDelete (c : Crk) (p : Pnd) (x : Int) : EFn Try.prog 5 [.agg (crkC c), .agg (pndC p), .c (.sc (.int .i64 x))] [] (fun r S => r = .c (.sc (.bool true)) ∧ S = []) := by
  refine E_fn Try.func5 rfl (Nat.le_of_ble_eq_true rfl) ?_
  refine E_seq ?_
  refine E_region' (L := [0, 1, 2]) rfl ?_
  refine x_box rfl rfl rfl rfl rfl ?_
  refine x_box rfl rfl rfl rfl rfl ?_
  refine x_pure rfl rfl rfl (L_assign rfl) ?_
  refine EOps_nil ?_
  refine E_seq ?_
  refine E_region' (L := [0]) rfl ?_
  refine x_pure rfl rfl rfl (L_assign rfl) ?_
  refine EOps_nil ?_
  refine E_seq ?_
  refine e_tidy [0, 1, 2, 3, 4, 6, 7] ?_ (hb := by simp only [E.keepOf, E.get, E.ev, E.cv, E.fill', E.fill, E.slotsOf, Res.sh, AC.sh, AC.sh.shs, AV.sh, E.splice, List.map_cons, List.map_nil, List.cons_append, List.nil_append, List.append_nil, List.length_cons, List.length_nil, List.take_zero, List.drop_zero, List.take_succ_cons, List.drop_succ_cons, List.drop_nil, List.take_nil, List.set_cons_zero, List.set_cons_succ, Nat.zero_add, Nat.add_zero, Nat.reduceAdd, Nat.reduceSub, reduceIte, Nat.reduceEqDiff, E.back, E.backR, E.ix, Res.un, AC.un, AC.un.uns, AV.un, E.un, Option.map_some, Option.map_none, Option.getD_some, List.getElem?_cons_zero, List.getElem?_cons_succ, List.getElem?_nil, pndO, pndR]; rfl) (hR := by (try simp only [E.keepOf, E.get, E.ev, E.cv, E.fill', E.fill, E.slotsOf, Res.sh, AC.sh, AC.sh.shs, AV.sh, E.splice, List.map_cons, List.map_nil, List.cons_append, List.nil_append, List.append_nil, List.length_cons, List.length_nil, List.take_zero, List.drop_zero, List.take_succ_cons, List.drop_succ_cons, List.drop_nil, List.take_nil, List.set_cons_zero, List.set_cons_succ, Nat.zero_add, Nat.add_zero, Nat.reduceAdd, Nat.reduceSub, reduceIte, Nat.reduceEqDiff, E.back, E.backR, E.ix, Res.un, AC.un, AC.un.uns, AV.un, E.un, Option.map_some, Option.map_none, Option.getD_some, List.getElem?_cons_zero, List.getElem?_cons_succ, List.getElem?_nil, pndO, pndR]); rfl)
  refine E_region' (L := [0, 1, 2, 3]) rfl ?_
  refine x_light rfl rfl rfl (L_load rfl (by first | exact d_bp ty_25 | exact ld_rp ty_25 rfl | exact d_ep ty_25)) ?_
  refine x_pure rfl rfl rfl (L_move rfl) ?_
  refine x_call rfl rfl rfl rfl rfl ca_15 (c_laws_szCracker (c) (1048576) (by omega)) ?_
  rintro r S ⟨rfl, rfl⟩
  refine x_pure rfl rfl rfl (L_assign rfl) ?_
  refine EOps_nil ?_
  refine E_seq ?_
  refine E_seq ?_
  refine E_region' (L := [0, 1]) rfl ?_
  refine x_pure rfl rfl rfl (L_move rfl) ?_
  refine x_pure rfl rfl rfl (L_bin rfl rfl rfl rfl) ?_
  refine EOps_nil ?_
  refine E_cond rfl (fun hc23 => ?_) (fun hc23 => ?_)
  · refine E_seq ?_
    refine E_region' (L := [0]) rfl ?_
    refine x_pure rfl rfl rfl (L_assign rfl) ?_
    refine EOps_nil ?_
    refine E_ret ?_
    refine ⟨_, [], rfl, rfl, ?_, rfl⟩
    simp [AV.ren, ren_sc, ren_ro, AC.ren, AC.ren.rens, ix, rv1, E.get, E.ev, E.cv, E.fill', E.fill, E.slotsOf, *]
  · have h0 : ¬ szR (1048576) (c.vals.length + c.rows.length + c.piv.length) < 0 := by simpa using hc23
    have hl0 := szR_le h0
    have hr0 := szR_rng (l := 1048576) (n := c.vals.length + c.rows.length + c.piv.length) (by omega)
    have ha0 : c.vals.length ≤ 1048576 ∧ c.rows.length ≤ 1048576 ∧ c.piv.length ≤ 1048576 := by omega
    refine E_skip ?_
    refine E_seq ?_
    refine e_tidy [0, 1, 2, 3, 4, 6, 7, 23] ?_ (hb := by simp only [E.keepOf, E.get, E.ev, E.cv, E.fill', E.fill, E.slotsOf, Res.sh, AC.sh, AC.sh.shs, AV.sh, E.splice, List.map_cons, List.map_nil, List.cons_append, List.nil_append, List.append_nil, List.length_cons, List.length_nil, List.take_zero, List.drop_zero, List.take_succ_cons, List.drop_succ_cons, List.drop_nil, List.take_nil, List.set_cons_zero, List.set_cons_succ, Nat.zero_add, Nat.add_zero, Nat.reduceAdd, Nat.reduceSub, reduceIte, Nat.reduceEqDiff, E.back, E.backR, E.ix, Res.un, AC.un, AC.un.uns, AV.un, E.un, Option.map_some, Option.map_none, Option.getD_some, List.getElem?_cons_zero, List.getElem?_cons_succ, List.getElem?_nil, pndO, pndR]; rfl) (hR := by (try simp only [E.keepOf, E.get, E.ev, E.cv, E.fill', E.fill, E.slotsOf, Res.sh, AC.sh, AC.sh.shs, AV.sh, E.splice, List.map_cons, List.map_nil, List.cons_append, List.nil_append, List.append_nil, List.length_cons, List.length_nil, List.take_zero, List.drop_zero, List.take_succ_cons, List.drop_succ_cons, List.drop_nil, List.take_nil, List.set_cons_zero, List.set_cons_succ, Nat.zero_add, Nat.add_zero, Nat.reduceAdd, Nat.reduceSub, reduceIte, Nat.reduceEqDiff, E.back, E.backR, E.ix, Res.un, AC.un, AC.un.uns, AV.un, E.un, Option.map_some, Option.map_none, Option.getD_some, List.getElem?_cons_zero, List.getElem?_cons_succ, List.getElem?_nil, pndO, pndR]); rfl)
    refine E_region' (L := [0, 1, 2, 3]) rfl ?_
    refine x_light rfl rfl rfl (L_load rfl (by first | exact d_bp ty_40 | exact ld_rp ty_40 rfl | exact d_ep ty_40)) ?_
    refine x_pure rfl rfl rfl (L_move rfl) ?_
    refine x_call rfl rfl rfl rfl rfl ca_24 (c_laws_szPending (p) (szR (1048576) (c.vals.length + c.rows.length + c.piv.length)) hr0) ?_
    rintro r S ⟨rfl, rfl⟩
    refine x_pure rfl rfl rfl (L_assign rfl) ?_
    refine EOps_nil ?_
    refine E_seq ?_
    refine E_seq ?_
    refine E_region' (L := [0, 1]) rfl ?_
    refine x_pure rfl rfl rfl (L_move rfl) ?_
    refine x_pure rfl rfl rfl (L_bin rfl rfl rfl rfl) ?_
    refine EOps_nil ?_
    refine E_cond rfl (fun hc28 => ?_) (fun hc28 => ?_)
    · refine E_seq ?_
      refine E_region' (L := [0]) rfl ?_
      refine x_pure rfl rfl rfl (L_assign rfl) ?_
      refine EOps_nil ?_
      refine E_ret ?_
      refine ⟨_, [], rfl, rfl, ?_, rfl⟩
      simp [AV.ren, ren_sc, ren_ro, AC.ren, AC.ren.rens, ix, rv1, E.get, E.ev, E.cv, E.fill', E.fill, E.slotsOf, *]
    · have h1 : ¬ szR (szR (1048576) (c.vals.length + c.rows.length + c.piv.length)) (p.ins.length + p.del.length) < 0 := by simpa using hc28
      have hl1 := szR_le h1
      have hr1 := szR_rng (l := szR (1048576) (c.vals.length + c.rows.length + c.piv.length)) (n := p.ins.length + p.del.length) hr0
      have ha1 : p.ins.length ≤ 1048576 ∧ p.del.length ≤ 1048576 := by omega
      have hw := c_spec_AddDelete c p x ⟨ha0.2.1, ha1.1, ha1.2⟩
      have hg := c_impl_AddDelete c p x ⟨ha0.2.1, ha1.1, ha1.2⟩
      have hle0 := delR_le (c := c) (x := x) ha1
      generalize delR c p x = q at hw hg hle0
      generalize delOk c p x = ok at hw hg
      refine E_skip ?_
      refine E_seq ?_
      refine e_tidy [0, 1, 2, 3, 4, 6, 7, 23, 28] ?_ (hb := by simp only [E.keepOf, E.get, E.ev, E.cv, E.fill', E.fill, E.slotsOf, Res.sh, AC.sh, AC.sh.shs, AV.sh, E.splice, List.map_cons, List.map_nil, List.cons_append, List.nil_append, List.append_nil, List.length_cons, List.length_nil, List.take_zero, List.drop_zero, List.take_succ_cons, List.drop_succ_cons, List.drop_nil, List.take_nil, List.set_cons_zero, List.set_cons_succ, Nat.zero_add, Nat.add_zero, Nat.reduceAdd, Nat.reduceSub, reduceIte, Nat.reduceEqDiff, E.back, E.backR, E.ix, Res.un, AC.un, AC.un.uns, AV.un, E.un, Option.map_some, Option.map_none, Option.getD_some, List.getElem?_cons_zero, List.getElem?_cons_succ, List.getElem?_nil, pndO, pndR]; rfl) (hR := by (try simp only [E.keepOf, E.get, E.ev, E.cv, E.fill', E.fill, E.slotsOf, Res.sh, AC.sh, AC.sh.shs, AV.sh, E.splice, List.map_cons, List.map_nil, List.cons_append, List.nil_append, List.append_nil, List.length_cons, List.length_nil, List.take_zero, List.drop_zero, List.take_succ_cons, List.drop_succ_cons, List.drop_nil, List.take_nil, List.set_cons_zero, List.set_cons_succ, Nat.zero_add, Nat.add_zero, Nat.reduceAdd, Nat.reduceSub, reduceIte, Nat.reduceEqDiff, E.back, E.backR, E.ix, Res.un, AC.un, AC.un.uns, AV.un, E.un, Option.map_some, Option.map_none, Option.getD_some, List.getElem?_cons_zero, List.getElem?_cons_succ, List.getElem?_nil, pndO, pndR]); rfl)
      refine E_drawT mixed ?_
      refine t_light 0 rfl rfl rfl (L_load rfl (by first | exact d_bp ty_25 | exact ld_rp ty_25 rfl | exact d_ep ty_25)) ?_
      refine t_light 2 rfl rfl rfl (L_load rfl (by first | exact d_bp ty_40 | exact ld_rp ty_40 rfl | exact d_ep ty_40)) ?_
      refine t_old 4 rfl rfl rfl (L_move rfl) ?_
      refine t_main 2 [(⟨none, 9, 8, 0⟩, _)] [(1, false), (3, false), (5, false), (6, true), (7, true), (8, true)] [31, 33, 35, 29, 36, 37] [(8, .any), (31, .any), (33, .any), (35, .any), (29, .any), (36, .any), (37, .any)] [1, 3, 5, 6, 7, 8, 9] ⟨.one rfl rfl rfl (by decide) (F_alloc rfl za_46), trivial⟩ ?_
      refine m_call rfl rfl rfl rfl rfl ca_17 (c_laws_toCracker c ha0) ?_
      rintro r S ⟨rfl, rfl⟩
      refine m_call rfl rfl rfl rfl rfl ca_26 (c_laws_toPending p ha1) ?_
      rintro r S ⟨rfl, rfl⟩
      refine m_call rfl rfl rfl rfl rfl ca_32 (hw) ?_
      rintro r S ⟨rfl, rfl⟩
      refine m_pure rfl rfl rfl (L_move rfl) ?_
      refine m_pure rfl rfl rfl (L_extract rfl rfl) ?_
      refine m_pure rfl rfl rfl (L_extract rfl rfl) ?_
      refine m_done ?_
      refine fk_cons ?_
      rintro r S ⟨rfl, rfl⟩
      refine fk_nil ?_
      refine t_turn 10 rfl rfl (EOp_store rfl rfl rfl (by first | exact s_bp ty_46 | exact s_ep ty_46) ?_)
      refine t_old 11 rfl rfl rfl (L_assign rfl) ?_
      refine T_done (by kernel_rfl) ?_
      refine E_seq ?_
      refine e_tidy [0, 1, 2, 3, 4, 6, 7, 8, 9, 23, 28] ?_ (hb := by simp only [E.keepOf, E.get, E.ev, E.cv, E.fill', E.fill, E.slotsOf, Res.sh, AC.sh, AC.sh.shs, AV.sh, E.splice, List.map_cons, List.map_nil, List.cons_append, List.nil_append, List.append_nil, List.length_cons, List.length_nil, List.take_zero, List.drop_zero, List.take_succ_cons, List.drop_succ_cons, List.drop_nil, List.take_nil, List.set_cons_zero, List.set_cons_succ, Nat.zero_add, Nat.add_zero, Nat.reduceAdd, Nat.reduceSub, reduceIte, Nat.reduceEqDiff, E.back, E.backR, E.ix, Res.un, AC.un, AC.un.uns, AV.un, E.un, Option.map_some, Option.map_none, Option.getD_some, List.getElem?_cons_zero, List.getElem?_cons_succ, List.getElem?_nil, pndO, pndR]; rfl) (hR := by (try simp only [E.keepOf, E.get, E.ev, E.cv, E.fill', E.fill, E.slotsOf, Res.sh, AC.sh, AC.sh.shs, AV.sh, E.splice, List.map_cons, List.map_nil, List.cons_append, List.nil_append, List.append_nil, List.length_cons, List.length_nil, List.take_zero, List.drop_zero, List.take_succ_cons, List.drop_succ_cons, List.drop_nil, List.take_nil, List.set_cons_zero, List.set_cons_succ, Nat.zero_add, Nat.add_zero, Nat.reduceAdd, Nat.reduceSub, reduceIte, Nat.reduceEqDiff, E.back, E.backR, E.ix, Res.un, AC.un, AC.un.uns, AV.un, E.un, Option.map_some, Option.map_none, Option.getD_some, List.getElem?_cons_zero, List.getElem?_cons_succ, List.getElem?_nil, pndO, pndR]); rfl)
      refine E_region' (L := [0, 1, 2, 3]) rfl ?_
      refine x_light rfl rfl rfl (L_load rfl (by first | exact d_bp ty_25 | exact ld_rp ty_25 rfl | exact d_ep ty_25)) ?_
      refine x_call rfl rfl rfl rfl rfl ca_17 (c_laws_toCracker c ha0) ?_
      rintro r S ⟨rfl, rfl⟩
      refine x_alloc rfl rfl rfl rfl za_31 ?_
      refine EOps_go rfl rfl (EOp_store rfl rfl rfl (by first | exact s_bp ty_31 | exact s_ep ty_31) ?_)
      refine EOps_nil ?_
      refine E_seq ?_
      refine e_tidy [0, 1, 2, 3, 4, 6, 7, 8, 9, 10, 23, 28] ?_ (hb := by simp only [E.keepOf, E.get, E.ev, E.cv, E.fill', E.fill, E.slotsOf, Res.sh, AC.sh, AC.sh.shs, AV.sh, E.splice, List.map_cons, List.map_nil, List.cons_append, List.nil_append, List.append_nil, List.length_cons, List.length_nil, List.take_zero, List.drop_zero, List.take_succ_cons, List.drop_succ_cons, List.drop_nil, List.take_nil, List.set_cons_zero, List.set_cons_succ, Nat.zero_add, Nat.add_zero, Nat.reduceAdd, Nat.reduceSub, reduceIte, Nat.reduceEqDiff, E.back, E.backR, E.ix, Res.un, AC.un, AC.un.uns, AV.un, E.un, Option.map_some, Option.map_none, Option.getD_some, List.getElem?_cons_zero, List.getElem?_cons_succ, List.getElem?_nil, pndO, pndR]; rfl) (hR := by (try simp only [E.keepOf, E.get, E.ev, E.cv, E.fill', E.fill, E.slotsOf, Res.sh, AC.sh, AC.sh.shs, AV.sh, E.splice, List.map_cons, List.map_nil, List.cons_append, List.nil_append, List.append_nil, List.length_cons, List.length_nil, List.take_zero, List.drop_zero, List.take_succ_cons, List.drop_succ_cons, List.drop_nil, List.take_nil, List.set_cons_zero, List.set_cons_succ, Nat.zero_add, Nat.add_zero, Nat.reduceAdd, Nat.reduceSub, reduceIte, Nat.reduceEqDiff, E.back, E.backR, E.ix, Res.un, AC.un, AC.un.uns, AV.un, E.un, Option.map_some, Option.map_none, Option.getD_some, List.getElem?_cons_zero, List.getElem?_cons_succ, List.getElem?_nil, pndO, pndR]); rfl)
      refine E_region' (L := [0, 1, 2, 3]) rfl ?_
      refine x_light rfl rfl rfl (L_load rfl (by first | exact d_bp ty_40 | exact ld_rp ty_40 rfl | exact d_ep ty_40)) ?_
      refine x_call rfl rfl rfl rfl rfl ca_26 (c_laws_toPending p ha1) ?_
      rintro r S ⟨rfl, rfl⟩
      refine x_alloc rfl rfl rfl rfl za_46 ?_
      refine EOps_go rfl rfl (EOp_store rfl rfl rfl (by first | exact s_bp ty_46 | exact s_ep ty_46) ?_)
      refine EOps_nil ?_
      refine E_seq ?_
      refine e_tidy [0, 1, 2, 3, 4, 6, 7, 8, 9, 10, 11, 23, 28] ?_ (hb := by simp only [E.keepOf, E.get, E.ev, E.cv, E.fill', E.fill, E.slotsOf, Res.sh, AC.sh, AC.sh.shs, AV.sh, E.splice, List.map_cons, List.map_nil, List.cons_append, List.nil_append, List.append_nil, List.length_cons, List.length_nil, List.take_zero, List.drop_zero, List.take_succ_cons, List.drop_succ_cons, List.drop_nil, List.take_nil, List.set_cons_zero, List.set_cons_succ, Nat.zero_add, Nat.add_zero, Nat.reduceAdd, Nat.reduceSub, reduceIte, Nat.reduceEqDiff, E.back, E.backR, E.ix, Res.un, AC.un, AC.un.uns, AV.un, E.un, Option.map_some, Option.map_none, Option.getD_some, List.getElem?_cons_zero, List.getElem?_cons_succ, List.getElem?_nil, pndO, pndR]; rfl) (hR := by (try simp only [E.keepOf, E.get, E.ev, E.cv, E.fill', E.fill, E.slotsOf, Res.sh, AC.sh, AC.sh.shs, AV.sh, E.splice, List.map_cons, List.map_nil, List.cons_append, List.nil_append, List.append_nil, List.length_cons, List.length_nil, List.take_zero, List.drop_zero, List.take_succ_cons, List.drop_succ_cons, List.drop_nil, List.take_nil, List.set_cons_zero, List.set_cons_succ, Nat.zero_add, Nat.add_zero, Nat.reduceAdd, Nat.reduceSub, reduceIte, Nat.reduceEqDiff, E.back, E.backR, E.ix, Res.un, AC.un, AC.un.uns, AV.un, E.un, Option.map_some, Option.map_none, Option.getD_some, List.getElem?_cons_zero, List.getElem?_cons_succ, List.getElem?_nil, pndO, pndR]); rfl)
      refine E_region' (L := [0, 1, 2, 3, 4, 5, 6, 7, 8, 9]) rfl ?_
      refine x_light rfl rfl rfl (L_load rfl (by first | exact d_bp ty_31 | exact ld_rp ty_31 rfl | exact d_ep ty_31)) ?_
      refine x_light rfl rfl rfl (L_load rfl (by first | exact d_bp ty_46 | exact ld_rp ty_46 rfl | exact d_ep ty_46)) ?_
      refine x_pure rfl rfl rfl (L_move rfl) ?_
      refine x_call rfl rfl rfl rfl rfl ca_33 (hg) ?_
      rintro r S ⟨rfl, rfl⟩
      refine x_pure rfl rfl rfl (L_move rfl) ?_
      refine x_pure rfl rfl rfl (L_extract rfl rfl) ?_
      refine x_pure rfl rfl rfl (L_extract rfl rfl) ?_
      refine x_alloc rfl rfl rfl rfl za_46 ?_
      refine EOps_go rfl rfl (EOp_store rfl rfl rfl (by first | exact s_bp ty_46 | exact s_ep ty_46) ?_)
      refine x_pure rfl rfl rfl (L_assign rfl) ?_
      refine EOps_nil ?_
      refine E_seq ?_
      refine E_seq ?_
      refine e_tidy [0, 1, 2, 3, 4, 6, 7, 8, 9, 10, 11, 12, 13, 23, 28] ?_ (hb := by simp only [E.keepOf, E.get, E.ev, E.cv, E.fill', E.fill, E.slotsOf, Res.sh, AC.sh, AC.sh.shs, AV.sh, E.splice, List.map_cons, List.map_nil, List.cons_append, List.nil_append, List.append_nil, List.length_cons, List.length_nil, List.take_zero, List.drop_zero, List.take_succ_cons, List.drop_succ_cons, List.drop_nil, List.take_nil, List.set_cons_zero, List.set_cons_succ, Nat.zero_add, Nat.add_zero, Nat.reduceAdd, Nat.reduceSub, reduceIte, Nat.reduceEqDiff, E.back, E.backR, E.ix, Res.un, AC.un, AC.un.uns, AV.un, E.un, Option.map_some, Option.map_none, Option.getD_some, List.getElem?_cons_zero, List.getElem?_cons_succ, List.getElem?_nil, pndO, pndR]; rfl) (hR := by (try simp only [E.keepOf, E.get, E.ev, E.cv, E.fill', E.fill, E.slotsOf, Res.sh, AC.sh, AC.sh.shs, AV.sh, E.splice, List.map_cons, List.map_nil, List.cons_append, List.nil_append, List.append_nil, List.length_cons, List.length_nil, List.take_zero, List.drop_zero, List.take_succ_cons, List.drop_succ_cons, List.drop_nil, List.take_nil, List.set_cons_zero, List.set_cons_succ, Nat.zero_add, Nat.add_zero, Nat.reduceAdd, Nat.reduceSub, reduceIte, Nat.reduceEqDiff, E.back, E.backR, E.ix, Res.un, AC.un, AC.un.uns, AV.un, E.un, Option.map_some, Option.map_none, Option.getD_some, List.getElem?_cons_zero, List.getElem?_cons_succ, List.getElem?_nil, pndO, pndR]); rfl)
      refine E_region' (L := [0, 1, 2, 3, 4, 5, 6, 7, 8]) rfl ?_
      refine x_light rfl rfl rfl (L_load rfl (by first | exact d_bp ty_46 | exact ld_rp ty_46 rfl | exact d_ep ty_46)) ?_
      refine x_light rfl rfl rfl (L_load rfl (by first | exact d_bp ty_46 | exact ld_rp ty_46 rfl | exact d_ep ty_46)) ?_
      refine x_call rfl rfl rfl rfl rfl ca_29 (c_laws_eqPending q q) ?_
      rintro r S ⟨rfl, rfl⟩
      refine x_pure rfl rfl rfl (L_not rfl rfl) ?_
      refine x_pure rfl rfl rfl (L_move rfl) ?_
      refine EOps_split 53 (b := _) rfl (fun hg53 => ?_) (fun hg53 => ?_)
      · first | (simp at hg53; done) | (simp at hg53; omega)
      · refine x_pure rfl rfl rfl (L_move rfl) ?_
        refine x_pure rfl rfl rfl (L_move rfl) ?_
        refine x_pure rfl rfl rfl (L_binB rfl bo_4 rfl rfl rfl) ?_
        refine x_pure rfl rfl rfl (L_pick rfl rfl) ?_
        refine EOps_nil ?_
        refine E_cond rfl (fun hc57 => ?_) (fun hc57 => ?_)
        · first | (simp at hc57; done) | (simp at hc57; omega)
        · refine E_skip ?_
          refine E_seq ?_
          refine E_seq ?_
          refine e_tidy [0, 1, 2, 3, 4, 6, 7, 8, 9, 10, 11, 12, 13, 23, 28, 57] ?_ (hb := by simp only [E.keepOf, E.get, E.ev, E.cv, E.fill', E.fill, E.slotsOf, Res.sh, AC.sh, AC.sh.shs, AV.sh, E.splice, List.map_cons, List.map_nil, List.cons_append, List.nil_append, List.append_nil, List.length_cons, List.length_nil, List.take_zero, List.drop_zero, List.take_succ_cons, List.drop_succ_cons, List.drop_nil, List.take_nil, List.set_cons_zero, List.set_cons_succ, Nat.zero_add, Nat.add_zero, Nat.reduceAdd, Nat.reduceSub, reduceIte, Nat.reduceEqDiff, E.back, E.backR, E.ix, Res.un, AC.un, AC.un.uns, AV.un, E.un, Option.map_some, Option.map_none, Option.getD_some, List.getElem?_cons_zero, List.getElem?_cons_succ, List.getElem?_nil, pndO, pndR]; rfl) (hR := by (try simp only [E.keepOf, E.get, E.ev, E.cv, E.fill', E.fill, E.slotsOf, Res.sh, AC.sh, AC.sh.shs, AV.sh, E.splice, List.map_cons, List.map_nil, List.cons_append, List.nil_append, List.append_nil, List.length_cons, List.length_nil, List.take_zero, List.drop_zero, List.take_succ_cons, List.drop_succ_cons, List.drop_nil, List.take_nil, List.set_cons_zero, List.set_cons_succ, Nat.zero_add, Nat.add_zero, Nat.reduceAdd, Nat.reduceSub, reduceIte, Nat.reduceEqDiff, E.back, E.backR, E.ix, Res.un, AC.un, AC.un.uns, AV.un, E.un, Option.map_some, Option.map_none, Option.getD_some, List.getElem?_cons_zero, List.getElem?_cons_succ, List.getElem?_nil, pndO, pndR]); rfl)
          refine E_drawT mixed ?_
          refine t_light 0 rfl rfl rfl (L_load rfl (by first | exact d_bp ty_31 | exact ld_rp ty_31 rfl | exact d_ep ty_31)) ?_
          refine t_light 1 rfl rfl rfl (L_load rfl (by first | exact d_bp ty_25 | exact ld_rp ty_25 rfl | exact d_ep ty_25)) ?_
          refine t_call 2 rfl rfl rfl rfl rfl ca_17 (c_laws_toCracker c ha0) ?_
          rintro r S ⟨rfl, rfl⟩
          refine t_call 3 rfl rfl rfl rfl rfl ca_20 (c_laws_eqCracker c c) ?_
          rintro r S ⟨rfl, rfl⟩
          refine t_old 4 rfl rfl rfl (L_not rfl rfl) ?_
          refine T_done (by kernel_rfl) ?_
          refine E_cond rfl (fun hc62 => ?_) (fun hc62 => ?_)
          · first | (simp at hc62; done) | (simp at hc62; omega)
          · refine E_skip ?_
            refine E_seq ?_
            refine E_seq ?_
            refine e_tidy [0, 1, 2, 3, 4, 6, 7, 8, 9, 10, 11, 12, 13, 23, 28, 57, 62] ?_ (hb := by simp only [E.keepOf, E.get, E.ev, E.cv, E.fill', E.fill, E.slotsOf, Res.sh, AC.sh, AC.sh.shs, AV.sh, E.splice, List.map_cons, List.map_nil, List.cons_append, List.nil_append, List.append_nil, List.length_cons, List.length_nil, List.take_zero, List.drop_zero, List.take_succ_cons, List.drop_succ_cons, List.drop_nil, List.take_nil, List.set_cons_zero, List.set_cons_succ, Nat.zero_add, Nat.add_zero, Nat.reduceAdd, Nat.reduceSub, reduceIte, Nat.reduceEqDiff, E.back, E.backR, E.ix, Res.un, AC.un, AC.un.uns, AV.un, E.un, Option.map_some, Option.map_none, Option.getD_some, List.getElem?_cons_zero, List.getElem?_cons_succ, List.getElem?_nil, pndO, pndR]; rfl) (hR := by (try simp only [E.keepOf, E.get, E.ev, E.cv, E.fill', E.fill, E.slotsOf, Res.sh, AC.sh, AC.sh.shs, AV.sh, E.splice, List.map_cons, List.map_nil, List.cons_append, List.nil_append, List.append_nil, List.length_cons, List.length_nil, List.take_zero, List.drop_zero, List.take_succ_cons, List.drop_succ_cons, List.drop_nil, List.take_nil, List.set_cons_zero, List.set_cons_succ, Nat.zero_add, Nat.add_zero, Nat.reduceAdd, Nat.reduceSub, reduceIte, Nat.reduceEqDiff, E.back, E.backR, E.ix, Res.un, AC.un, AC.un.uns, AV.un, E.un, Option.map_some, Option.map_none, Option.getD_some, List.getElem?_cons_zero, List.getElem?_cons_succ, List.getElem?_nil, pndO, pndR]); rfl)
            refine E_drawT mixed ?_
            refine t_light 0 rfl rfl rfl (L_load rfl (by first | exact d_bp ty_46 | exact ld_rp ty_46 rfl | exact d_ep ty_46)) ?_
            refine t_light 1 rfl rfl rfl (L_load rfl (by first | exact d_bp ty_40 | exact ld_rp ty_40 rfl | exact d_ep ty_40)) ?_
            refine t_call 2 rfl rfl rfl rfl rfl ca_26 (c_laws_toPending p ha1) ?_
            rintro r S ⟨rfl, rfl⟩
            refine t_call 3 rfl rfl rfl rfl rfl ca_29 (c_laws_eqPending p p) ?_
            rintro r S ⟨rfl, rfl⟩
            refine t_old 4 rfl rfl rfl (L_not rfl rfl) ?_
            refine T_done (by kernel_rfl) ?_
            refine E_cond rfl (fun hc67 => ?_) (fun hc67 => ?_)
            · first | (simp at hc67; done) | (simp at hc67; omega)
            · refine E_skip ?_
              refine E_seq ?_
              refine E_region' (L := [0]) rfl ?_
              refine x_pure rfl rfl rfl (L_assign rfl) ?_
              refine EOps_nil ?_
              refine E_seq ?_
              refine e_tidy [0, 1, 2, 3, 4, 6, 7, 8, 9, 10, 11, 12, 13, 14, 23, 28, 57, 62, 67] ?_ (hb := by simp only [E.keepOf, E.get, E.ev, E.cv, E.fill', E.fill, E.slotsOf, Res.sh, AC.sh, AC.sh.shs, AV.sh, E.splice, List.map_cons, List.map_nil, List.cons_append, List.nil_append, List.append_nil, List.length_cons, List.length_nil, List.take_zero, List.drop_zero, List.take_succ_cons, List.drop_succ_cons, List.drop_nil, List.take_nil, List.set_cons_zero, List.set_cons_succ, Nat.zero_add, Nat.add_zero, Nat.reduceAdd, Nat.reduceSub, reduceIte, Nat.reduceEqDiff, E.back, E.backR, E.ix, Res.un, AC.un, AC.un.uns, AV.un, E.un, Option.map_some, Option.map_none, Option.getD_some, List.getElem?_cons_zero, List.getElem?_cons_succ, List.getElem?_nil, pndO, pndR]; rfl) (hR := by (try simp only [E.keepOf, E.get, E.ev, E.cv, E.fill', E.fill, E.slotsOf, Res.sh, AC.sh, AC.sh.shs, AV.sh, E.splice, List.map_cons, List.map_nil, List.cons_append, List.nil_append, List.append_nil, List.length_cons, List.length_nil, List.take_zero, List.drop_zero, List.take_succ_cons, List.drop_succ_cons, List.drop_nil, List.take_nil, List.set_cons_zero, List.set_cons_succ, Nat.zero_add, Nat.add_zero, Nat.reduceAdd, Nat.reduceSub, reduceIte, Nat.reduceEqDiff, E.back, E.backR, E.ix, Res.un, AC.un, AC.un.uns, AV.un, E.un, Option.map_some, Option.map_none, Option.getD_some, List.getElem?_cons_zero, List.getElem?_cons_succ, List.getElem?_nil, pndO, pndR]); rfl)
              refine E_region' (L := [0, 1, 2, 3]) rfl ?_
              refine x_light rfl rfl rfl (L_load rfl (by first | exact d_bp ty_31 | exact ld_rp ty_31 rfl | exact d_ep ty_31)) ?_
              refine x_pure rfl rfl rfl (L_move rfl) ?_
              refine x_frame [10, 11, 12] rfl rfl rfl rfl rfl ca_21 rfl (c_laws_markCracker _ _ _ (1) c _ _ _ rfl rfl rfl ha0 (by omega)) ?_
              rintro r S ⟨r0, S0, ⟨rfl, rfl⟩, rfl, rfl⟩
              refine x_pure rfl rfl rfl (L_assign rfl) ?_
              refine EOps_nil ?_
              refine E_seq ?_
              refine e_tidy [0, 1, 2, 3, 4, 6, 7, 8, 9, 10, 11, 12, 13, 14, 23, 28, 57, 62, 67] ?_ (hb := by simp only [E.keepOf, E.get, E.ev, E.cv, E.fill', E.fill, E.slotsOf, Res.sh, AC.sh, AC.sh.shs, AV.sh, E.splice, List.map_cons, List.map_nil, List.cons_append, List.nil_append, List.append_nil, List.length_cons, List.length_nil, List.take_zero, List.drop_zero, List.take_succ_cons, List.drop_succ_cons, List.drop_nil, List.take_nil, List.set_cons_zero, List.set_cons_succ, Nat.zero_add, Nat.add_zero, Nat.reduceAdd, Nat.reduceSub, reduceIte, Nat.reduceEqDiff, E.back, E.backR, E.ix, Res.un, AC.un, AC.un.uns, AV.un, E.un, Option.map_some, Option.map_none, Option.getD_some, List.getElem?_cons_zero, List.getElem?_cons_succ, List.getElem?_nil, pndO, pndR]; rfl) (hR := by (try simp only [E.keepOf, E.get, E.ev, E.cv, E.fill', E.fill, E.slotsOf, Res.sh, AC.sh, AC.sh.shs, AV.sh, E.splice, List.map_cons, List.map_nil, List.cons_append, List.nil_append, List.append_nil, List.length_cons, List.length_nil, List.take_zero, List.drop_zero, List.take_succ_cons, List.drop_succ_cons, List.drop_nil, List.take_nil, List.set_cons_zero, List.set_cons_succ, Nat.zero_add, Nat.add_zero, Nat.reduceAdd, Nat.reduceSub, reduceIte, Nat.reduceEqDiff, E.back, E.backR, E.ix, Res.un, AC.un, AC.un.uns, AV.un, E.un, Option.map_some, Option.map_none, Option.getD_some, List.getElem?_cons_zero, List.getElem?_cons_succ, List.getElem?_nil, pndO, pndR]); rfl)
              refine E_region' (L := [0, 1, 2, 3]) rfl ?_
              refine x_light rfl rfl rfl (L_load rfl (by first | exact d_bp ty_46 | exact ld_rp ty_46 rfl | exact d_ep ty_46)) ?_
              refine x_pure rfl rfl rfl (L_move rfl) ?_
              refine x_frame [14, 15] rfl rfl rfl rfl rfl ca_30 rfl (c_laws_markPending _ _ (1 + c.vals.length + c.rows.length + 2 * c.piv.length) p _ _ rfl rfl ha1 (by omega)) ?_
              rintro r S ⟨r0, S0, ⟨rfl, rfl⟩, rfl, rfl⟩
              refine x_pure rfl rfl rfl (L_assign rfl) ?_
              refine EOps_nil ?_
              refine E_seq ?_
              refine E_seq ?_
              refine e_tidy [0, 1, 2, 3, 4, 6, 7, 8, 9, 10, 11, 12, 13, 14, 23, 28, 57, 62, 67] ?_ (hb := by simp only [E.keepOf, E.get, E.ev, E.cv, E.fill', E.fill, E.slotsOf, Res.sh, AC.sh, AC.sh.shs, AV.sh, E.splice, List.map_cons, List.map_nil, List.cons_append, List.nil_append, List.append_nil, List.length_cons, List.length_nil, List.take_zero, List.drop_zero, List.take_succ_cons, List.drop_succ_cons, List.drop_nil, List.take_nil, List.set_cons_zero, List.set_cons_succ, Nat.zero_add, Nat.add_zero, Nat.reduceAdd, Nat.reduceSub, reduceIte, Nat.reduceEqDiff, E.back, E.backR, E.ix, Res.un, AC.un, AC.un.uns, AV.un, E.un, Option.map_some, Option.map_none, Option.getD_some, List.getElem?_cons_zero, List.getElem?_cons_succ, List.getElem?_nil, pndO, pndR]; rfl) (hR := by (try simp only [E.keepOf, E.get, E.ev, E.cv, E.fill', E.fill, E.slotsOf, Res.sh, AC.sh, AC.sh.shs, AV.sh, E.splice, List.map_cons, List.map_nil, List.cons_append, List.nil_append, List.append_nil, List.length_cons, List.length_nil, List.take_zero, List.drop_zero, List.take_succ_cons, List.drop_succ_cons, List.drop_nil, List.take_nil, List.set_cons_zero, List.set_cons_succ, Nat.zero_add, Nat.add_zero, Nat.reduceAdd, Nat.reduceSub, reduceIte, Nat.reduceEqDiff, E.back, E.backR, E.ix, Res.un, AC.un, AC.un.uns, AV.un, E.un, Option.map_some, Option.map_none, Option.getD_some, List.getElem?_cons_zero, List.getElem?_cons_succ, List.getElem?_nil, pndO, pndR]); rfl)
              refine E_region' (L := [0, 1, 2, 3, 4, 5, 6, 7, 8, 9, 10, 11, 12]) rfl ?_
              refine x_pure rfl rfl rfl (L_move rfl) ?_
              refine x_pure rfl rfl rfl (L_bin rfl rfl rfl rfl) ?_
              refine x_pure rfl rfl rfl (L_move rfl) ?_
              refine EOps_split 76 (b := _) rfl (fun hg76 => ?_) (fun hg76 => ?_)
              · first | (simp at hg76; done) | (simp at hg76; omega)
              · refine x_light rfl rfl rfl (L_load rfl (by first | exact d_bp ty_46 | exact ld_rp ty_46 rfl | exact d_ep ty_46)) ?_
                refine x_light rfl rfl rfl (L_load rfl (by first | exact d_bp ty_46 | exact ld_rp ty_46 rfl | exact d_ep ty_46)) ?_
                refine x_call rfl rfl rfl rfl rfl ca_29 (c_laws_eqPending q q) ?_
                rintro r S ⟨rfl, rfl⟩
                refine x_pure rfl rfl rfl (L_not rfl rfl) ?_
                refine x_pure rfl rfl rfl (L_pick rfl rfl) ?_
                refine x_pure rfl rfl rfl (L_move rfl) ?_
                refine EOps_split 82 (b := _) rfl (fun hg82 => ?_) (fun hg82 => ?_)
                · first | (simp at hg82; done) | (simp at hg82; omega)
                · refine x_pure rfl rfl rfl (L_move rfl) ?_
                  refine x_pure rfl rfl rfl (L_move rfl) ?_
                  refine x_pure rfl rfl rfl (L_binB rfl bo_4 rfl rfl rfl) ?_
                  refine x_pure rfl rfl rfl (L_pick rfl rfl) ?_
                  refine EOps_nil ?_
                  refine E_cond rfl (fun hc86 => ?_) (fun hc86 => ?_)
                  · first | (simp at hc86; done) | (simp at hc86; omega)
                  · refine E_skip ?_
                    refine E_seq ?_
                    refine E_region' (L := [0]) rfl ?_
                    refine x_pure rfl rfl rfl (L_assign rfl) ?_
                    refine EOps_nil ?_
                    refine E_seq ?_
                    refine e_tidy [0, 1, 2, 3, 4, 6, 7, 8, 9, 10, 11, 12, 13, 14, 15, 23, 28, 57, 62, 67, 86] ?_ (hb := by simp only [E.keepOf, E.get, E.ev, E.cv, E.fill', E.fill, E.slotsOf, Res.sh, AC.sh, AC.sh.shs, AV.sh, E.splice, List.map_cons, List.map_nil, List.cons_append, List.nil_append, List.append_nil, List.length_cons, List.length_nil, List.take_zero, List.drop_zero, List.take_succ_cons, List.drop_succ_cons, List.drop_nil, List.take_nil, List.set_cons_zero, List.set_cons_succ, Nat.zero_add, Nat.add_zero, Nat.reduceAdd, Nat.reduceSub, reduceIte, Nat.reduceEqDiff, E.back, E.backR, E.ix, Res.un, AC.un, AC.un.uns, AV.un, E.un, Option.map_some, Option.map_none, Option.getD_some, List.getElem?_cons_zero, List.getElem?_cons_succ, List.getElem?_nil, pndO, pndR]; rfl) (hR := by (try simp only [E.keepOf, E.get, E.ev, E.cv, E.fill', E.fill, E.slotsOf, Res.sh, AC.sh, AC.sh.shs, AV.sh, E.splice, List.map_cons, List.map_nil, List.cons_append, List.nil_append, List.append_nil, List.length_cons, List.length_nil, List.take_zero, List.drop_zero, List.take_succ_cons, List.drop_succ_cons, List.drop_nil, List.take_nil, List.set_cons_zero, List.set_cons_succ, Nat.zero_add, Nat.add_zero, Nat.reduceAdd, Nat.reduceSub, reduceIte, Nat.reduceEqDiff, E.back, E.backR, E.ix, Res.un, AC.un, AC.un.uns, AV.un, E.un, Option.map_some, Option.map_none, Option.getD_some, List.getElem?_cons_zero, List.getElem?_cons_succ, List.getElem?_nil, pndO, pndR]); rfl)
                    refine E_region' (L := [0, 1, 2, 3]) rfl ?_
                    refine x_light rfl rfl rfl (L_load rfl (by first | exact d_bp ty_46 | exact ld_rp ty_46 rfl | exact d_ep ty_46)) ?_
                    refine x_pure rfl rfl rfl (L_move rfl) ?_
                    refine x_frame [17, 18] rfl rfl rfl rfl rfl ca_30 rfl (c_laws_markPending _ _ (1) q _ _ rfl rfl hle0 (by omega)) ?_
                    rintro r S ⟨r0, S0, ⟨rfl, rfl⟩, rfl, rfl⟩
                    refine x_pure rfl rfl rfl (L_assign rfl) ?_
                    refine EOps_nil ?_
                    refine E_seq ?_
                    refine E_region' (L := [0]) rfl ?_
                    refine x_pure rfl rfl rfl (L_assign rfl) ?_
                    refine EOps_nil ?_
                    refine E_seq ?_
                    refine e_tidy [0, 1, 2, 3, 4, 6, 7, 8, 9, 10, 11, 12, 13, 14, 15, 16, 23, 28, 57, 62, 67, 86] ?_ (hb := by simp only [E.keepOf, E.get, E.ev, E.cv, E.fill', E.fill, E.slotsOf, Res.sh, AC.sh, AC.sh.shs, AV.sh, E.splice, List.map_cons, List.map_nil, List.cons_append, List.nil_append, List.append_nil, List.length_cons, List.length_nil, List.take_zero, List.drop_zero, List.take_succ_cons, List.drop_succ_cons, List.drop_nil, List.take_nil, List.set_cons_zero, List.set_cons_succ, Nat.zero_add, Nat.add_zero, Nat.reduceAdd, Nat.reduceSub, reduceIte, Nat.reduceEqDiff, E.back, E.backR, E.ix, Res.un, AC.un, AC.un.uns, AV.un, E.un, Option.map_some, Option.map_none, Option.getD_some, List.getElem?_cons_zero, List.getElem?_cons_succ, List.getElem?_nil, pndO, pndR]; rfl) (hR := by (try simp only [E.keepOf, E.get, E.ev, E.cv, E.fill', E.fill, E.slotsOf, Res.sh, AC.sh, AC.sh.shs, AV.sh, E.splice, List.map_cons, List.map_nil, List.cons_append, List.nil_append, List.append_nil, List.length_cons, List.length_nil, List.take_zero, List.drop_zero, List.take_succ_cons, List.drop_succ_cons, List.drop_nil, List.take_nil, List.set_cons_zero, List.set_cons_succ, Nat.zero_add, Nat.add_zero, Nat.reduceAdd, Nat.reduceSub, reduceIte, Nat.reduceEqDiff, E.back, E.backR, E.ix, Res.un, AC.un, AC.un.uns, AV.un, E.un, Option.map_some, Option.map_none, Option.getD_some, List.getElem?_cons_zero, List.getElem?_cons_succ, List.getElem?_nil, pndO, pndR]); rfl)
                    refine E_region' (L := [0, 1, 2, 3]) rfl ?_
                    refine x_light rfl rfl rfl (L_load rfl (by first | exact d_bp ty_46 | exact ld_rp ty_46 rfl | exact d_ep ty_46)) ?_
                    refine x_pure rfl rfl rfl (L_move rfl) ?_
                    refine x_call rfl rfl rfl rfl rfl ca_31 (c_laws_heldPending (1) (q.ins.length) (q.del.length) hle0 (by omega)) ?_ (ha := by exact cons_eq (agg_eq (cons_eq (lendC_whole rfl (by simp [pairs_len, seqP_len])) (cons_eq (lendC_whole rfl (by simp [ints_len, seqF_len])) rfl))) (cons_eq rfl rfl))
                    rintro r S ⟨rfl, rfl⟩
                    refine x_pure rfl rfl rfl (L_assign rfl) ?_
                    refine EOps_nil ?_
                    refine E_seq ?_
                    refine E_seq ?_
                    refine E_region' (L := [0, 1]) rfl ?_
                    refine x_pure rfl rfl rfl (L_move rfl) ?_
                    refine x_pure rfl rfl rfl (L_bin rfl rfl rfl rfl) ?_
                    refine EOps_nil ?_
                    refine E_cond rfl (fun hc94 => ?_) (fun hc94 => ?_)
                    · first | (simp at hc94; done) | (simp at hc94; omega)
                    · refine E_skip ?_
                      refine E_seq ?_
                      refine E_seq ?_
                      refine E_region' (L := [0, 1, 2]) rfl ?_
                      refine x_pure rfl rfl rfl (L_move rfl) ?_
                      refine x_pure rfl rfl rfl (L_move rfl) ?_
                      refine x_pure rfl rfl rfl (L_bin rfl rfl rfl rfl) ?_
                      refine EOps_nil ?_
                      refine E_cond rfl (fun hc97 => ?_) (fun hc97 => ?_)
                      · first | (simp at hc97; done) | (simp at hc97; omega)
                      · refine E_skip ?_
                        refine E_seq ?_
                        refine e_tidy [0, 1, 2, 3, 4, 6, 7, 8, 9, 10, 11, 12, 13, 14, 15, 16, 23, 28, 57, 62, 67, 86, 94, 97] ?_ (hb := by simp only [E.keepOf, E.get, E.ev, E.cv, E.fill', E.fill, E.slotsOf, Res.sh, AC.sh, AC.sh.shs, AV.sh, E.splice, List.map_cons, List.map_nil, List.cons_append, List.nil_append, List.append_nil, List.length_cons, List.length_nil, List.take_zero, List.drop_zero, List.take_succ_cons, List.drop_succ_cons, List.drop_nil, List.take_nil, List.set_cons_zero, List.set_cons_succ, Nat.zero_add, Nat.add_zero, Nat.reduceAdd, Nat.reduceSub, reduceIte, Nat.reduceEqDiff, E.back, E.backR, E.ix, Res.un, AC.un, AC.un.uns, AV.un, E.un, Option.map_some, Option.map_none, Option.getD_some, List.getElem?_cons_zero, List.getElem?_cons_succ, List.getElem?_nil, pndO, pndR]; rfl) (hR := by (try simp only [E.keepOf, E.get, E.ev, E.cv, E.fill', E.fill, E.slotsOf, Res.sh, AC.sh, AC.sh.shs, AV.sh, E.splice, List.map_cons, List.map_nil, List.cons_append, List.nil_append, List.append_nil, List.length_cons, List.length_nil, List.take_zero, List.drop_zero, List.take_succ_cons, List.drop_succ_cons, List.drop_nil, List.take_nil, List.set_cons_zero, List.set_cons_succ, Nat.zero_add, Nat.add_zero, Nat.reduceAdd, Nat.reduceSub, reduceIte, Nat.reduceEqDiff, E.back, E.backR, E.ix, Res.un, AC.un, AC.un.uns, AV.un, E.un, Option.map_some, Option.map_none, Option.getD_some, List.getElem?_cons_zero, List.getElem?_cons_succ, List.getElem?_nil, pndO, pndR]); rfl)
                        refine E_drawT mixed ?_
                        refine t_light 0 rfl rfl rfl (L_load rfl (by first | exact d_bp ty_25 | exact ld_rp ty_25 rfl | exact d_ep ty_25)) ?_
                        refine t_light 2 rfl rfl rfl (L_load rfl (by first | exact d_bp ty_40 | exact ld_rp ty_40 rfl | exact d_ep ty_40)) ?_
                        refine t_old 4 rfl rfl rfl (L_move rfl) ?_
                        refine t_main 2 [(⟨none, 9, 17, 0⟩, _)] [(1, false), (3, false), (5, false), (6, true), (7, true), (8, true)] [100, 102, 104, 98, 105, 106] [(17, .any), (100, .any), (102, .any), (104, .any), (98, .any), (105, .any), (106, .any)] [1, 3, 5, 6, 7, 8, 9] ⟨.one rfl rfl rfl (by decide) (F_alloc rfl za_46), trivial⟩ ?_
                        refine m_call rfl rfl rfl rfl rfl ca_17 (c_laws_toCracker c ha0) ?_
                        rintro r S ⟨rfl, rfl⟩
                        refine m_call rfl rfl rfl rfl rfl ca_26 (c_laws_toPending p ha1) ?_
                        rintro r S ⟨rfl, rfl⟩
                        refine m_call rfl rfl rfl rfl rfl ca_33 (hg) ?_
                        rintro r S ⟨rfl, rfl⟩
                        refine m_pure rfl rfl rfl (L_move rfl) ?_
                        refine m_pure rfl rfl rfl (L_extract rfl rfl) ?_
                        refine m_pure rfl rfl rfl (L_extract rfl rfl) ?_
                        refine m_done ?_
                        refine fk_cons ?_
                        rintro r S ⟨rfl, rfl⟩
                        refine fk_nil ?_
                        refine t_turn 10 rfl rfl (EOp_store rfl rfl rfl (by first | exact s_bp ty_46 | exact s_ep ty_46) ?_)
                        refine t_old 11 rfl rfl rfl (L_assign rfl) ?_
                        refine T_done (by kernel_rfl) ?_
                        refine E_seq ?_
                        refine E_seq ?_
                        refine e_tidy [0, 1, 2, 3, 4, 6, 7, 8, 9, 10, 11, 12, 13, 14, 15, 16, 17, 18, 23, 28, 57, 62, 67, 86, 94, 97] ?_ (hb := by simp only [E.keepOf, E.get, E.ev, E.cv, E.fill', E.fill, E.slotsOf, Res.sh, AC.sh, AC.sh.shs, AV.sh, E.splice, List.map_cons, List.map_nil, List.cons_append, List.nil_append, List.append_nil, List.length_cons, List.length_nil, List.take_zero, List.drop_zero, List.take_succ_cons, List.drop_succ_cons, List.drop_nil, List.take_nil, List.set_cons_zero, List.set_cons_succ, Nat.zero_add, Nat.add_zero, Nat.reduceAdd, Nat.reduceSub, reduceIte, Nat.reduceEqDiff, E.back, E.backR, E.ix, Res.un, AC.un, AC.un.uns, AV.un, E.un, Option.map_some, Option.map_none, Option.getD_some, List.getElem?_cons_zero, List.getElem?_cons_succ, List.getElem?_nil, pndO, pndR]; rfl) (hR := by (try simp only [E.keepOf, E.get, E.ev, E.cv, E.fill', E.fill, E.slotsOf, Res.sh, AC.sh, AC.sh.shs, AV.sh, E.splice, List.map_cons, List.map_nil, List.cons_append, List.nil_append, List.append_nil, List.length_cons, List.length_nil, List.take_zero, List.drop_zero, List.take_succ_cons, List.drop_succ_cons, List.drop_nil, List.take_nil, List.set_cons_zero, List.set_cons_succ, Nat.zero_add, Nat.add_zero, Nat.reduceAdd, Nat.reduceSub, reduceIte, Nat.reduceEqDiff, E.back, E.backR, E.ix, Res.un, AC.un, AC.un.uns, AV.un, E.un, Option.map_some, Option.map_none, Option.getD_some, List.getElem?_cons_zero, List.getElem?_cons_succ, List.getElem?_nil, pndO, pndR]); rfl)
                        refine E_region' (L := [0, 1, 2, 3, 4, 5, 6, 7, 8]) rfl ?_
                        refine x_light rfl rfl rfl (L_load rfl (by first | exact d_bp ty_46 | exact ld_rp ty_46 rfl | exact d_ep ty_46)) ?_
                        refine x_light rfl rfl rfl (L_load rfl (by first | exact d_bp ty_46 | exact ld_rp ty_46 rfl | exact d_ep ty_46)) ?_
                        refine x_call rfl rfl rfl rfl rfl ca_29 (c_laws_eqPending q q) ?_
                        rintro r S ⟨rfl, rfl⟩
                        refine x_pure rfl rfl rfl (L_not rfl rfl) ?_
                        refine x_pure rfl rfl rfl (L_move rfl) ?_
                        refine EOps_split 111 (b := _) rfl (fun hg111 => ?_) (fun hg111 => ?_)
                        · first | (simp at hg111; done) | (simp at hg111; omega)
                        · refine x_pure rfl rfl rfl (L_move rfl) ?_
                          refine x_pure rfl rfl rfl (L_move rfl) ?_
                          refine x_pure rfl rfl rfl (L_binB rfl bo_4 rfl rfl rfl) ?_
                          refine x_pure rfl rfl rfl (L_pick rfl rfl) ?_
                          refine EOps_nil ?_
                          refine E_cond rfl (fun hc115 => ?_) (fun hc115 => ?_)
                          · first | (simp at hc115; done) | (simp at hc115; omega)
                          · refine E_skip ?_
                            refine E_seq ?_
                            refine E_region' (L := [0]) rfl ?_
                            refine x_pure rfl rfl rfl (L_assign rfl) ?_
                            refine EOps_nil ?_
                            refine E_seq ?_
                            refine e_tidy [0, 1, 2, 3, 4, 6, 7, 8, 9, 10, 11, 12, 13, 14, 15, 16, 17, 18, 23, 28, 57, 62, 67, 86, 94, 97, 115] ?_ (hb := by simp only [E.keepOf, E.get, E.ev, E.cv, E.fill', E.fill, E.slotsOf, Res.sh, AC.sh, AC.sh.shs, AV.sh, E.splice, List.map_cons, List.map_nil, List.cons_append, List.nil_append, List.append_nil, List.length_cons, List.length_nil, List.take_zero, List.drop_zero, List.take_succ_cons, List.drop_succ_cons, List.drop_nil, List.take_nil, List.set_cons_zero, List.set_cons_succ, Nat.zero_add, Nat.add_zero, Nat.reduceAdd, Nat.reduceSub, reduceIte, Nat.reduceEqDiff, E.back, E.backR, E.ix, Res.un, AC.un, AC.un.uns, AV.un, E.un, Option.map_some, Option.map_none, Option.getD_some, List.getElem?_cons_zero, List.getElem?_cons_succ, List.getElem?_nil, pndO, pndR]; rfl) (hR := by (try simp only [E.keepOf, E.get, E.ev, E.cv, E.fill', E.fill, E.slotsOf, Res.sh, AC.sh, AC.sh.shs, AV.sh, E.splice, List.map_cons, List.map_nil, List.cons_append, List.nil_append, List.append_nil, List.length_cons, List.length_nil, List.take_zero, List.drop_zero, List.take_succ_cons, List.drop_succ_cons, List.drop_nil, List.take_nil, List.set_cons_zero, List.set_cons_succ, Nat.zero_add, Nat.add_zero, Nat.reduceAdd, Nat.reduceSub, reduceIte, Nat.reduceEqDiff, E.back, E.backR, E.ix, Res.un, AC.un, AC.un.uns, AV.un, E.un, Option.map_some, Option.map_none, Option.getD_some, List.getElem?_cons_zero, List.getElem?_cons_succ, List.getElem?_nil, pndO, pndR]); rfl)
                            refine E_region' (L := [0, 1, 2, 3]) rfl ?_
                            refine x_light rfl rfl rfl (L_load rfl (by first | exact d_bp ty_46 | exact ld_rp ty_46 rfl | exact d_ep ty_46)) ?_
                            refine x_pure rfl rfl rfl (L_move rfl) ?_
                            refine x_call rfl rfl rfl rfl rfl ca_31 (c_laws_heldPending (1) (q.ins.length) (q.del.length) hle0 (by omega)) ?_ (ha := by exact cons_eq (agg_eq (cons_eq (lendC_whole rfl (by simp [pairs_len, seqP_len])) (cons_eq (lendC_whole rfl (by simp [ints_len, seqF_len])) rfl))) (cons_eq rfl rfl))
                            rintro r S ⟨rfl, rfl⟩
                            refine x_pure rfl rfl rfl (L_assign rfl) ?_
                            refine EOps_nil ?_
                            refine E_seq ?_
                            refine E_seq ?_
                            refine E_region' (L := [0, 1]) rfl ?_
                            refine x_pure rfl rfl rfl (L_move rfl) ?_
                            refine x_pure rfl rfl rfl (L_bin rfl rfl rfl rfl) ?_
                            refine EOps_nil ?_
                            refine E_cond rfl (fun hc120 => ?_) (fun hc120 => ?_)
                            · first | (simp at hc120; done) | (simp at hc120; omega)
                            · refine E_skip ?_
                              refine E_seq ?_
                              refine E_seq ?_
                              refine E_region' (L := [0, 1, 2]) rfl ?_
                              refine x_pure rfl rfl rfl (L_move rfl) ?_
                              refine x_pure rfl rfl rfl (L_move rfl) ?_
                              refine x_pure rfl rfl rfl (L_bin rfl rfl rfl rfl) ?_
                              refine EOps_nil ?_
                              refine E_cond rfl (fun hc123 => ?_) (fun hc123 => ?_)
                              · first | (simp at hc123; done) | (simp at hc123; omega)
                              · refine E_skip ?_
                                refine E_seq ?_
                                refine E_region' (L := [0]) rfl ?_
                                refine x_pure rfl rfl rfl (L_assign rfl) ?_
                                refine EOps_nil ?_
                                refine E_ret ?_
                                refine ⟨_, [], rfl, rfl, ?_, rfl⟩
                                simp [AV.ren, ren_sc, ren_ro, AC.ren, AC.ren.rens, ix, rv1, E.get, E.ev, E.cv, E.fill', E.fill, E.slotsOf, *]

end Go.Proofs.Ytkaikajjhhnifaa.E
