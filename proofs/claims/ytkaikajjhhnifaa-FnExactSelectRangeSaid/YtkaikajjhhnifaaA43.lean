/- Walks through functions, by program out of the session's annotations. -/
import Derived.Test.YtkaikajjhhnifaaA42
import Derived.Test.YtkaikajjhhnifaaF3
namespace Go.Proofs.Ytkaikajjhhnifaa.E
open Go Go.RowKit Go.Proofs
set_option linter.unusedVariables false
set_option linter.unusedSimpArgs false

theorem sel_le {c : Crk} {r : Int × Int} (h : c.vals.length ≤ 1048576 ∧ c.rows.length ≤ 1048576 ∧ c.piv.length ≤ 1048576) : (selC c r).vals.length ≤ 1048576 ∧ (selC c r).rows.length ≤ 1048576 ∧ (selC c r).piv.length ≤ 1048576 := by
  unfold selC
  split
  · rename_i hk
    have hcv : isCrk c = true ∧ isRng r = true := by simpa [selK] using hk
    have hbd := rng_bnd hcv.2
    have hl := crk_lens (crackC_ok (crackC_ok hcv.1 hbd.1).1 hbd.2).1
    rw [sel2]; omega
  · exact h

set_option maxRecDepth 20000 in
set_option maxHeartbeats 4000000 in
theorem c_laws_FnExactSelectRange (c : Crk) (r : Int × Int) : EFn Try.prog 9 [.agg (crkC c), .agg [.sc (.int .i64 r.1), .sc (.int .i64 r.2)]] [] (fun r S => r = .c (.sc (.bool true)) ∧ S = []) := by
  refine E_fn Try.func9 rfl (Nat.le_of_ble_eq_true rfl) ?_
  refine E_seq ?_
  refine E_region' (L := [0, 1, 2]) rfl ?_
  refine x_box rfl rfl rfl rfl rfl ?_
  refine x_box rfl rfl rfl rfl rfl ?_
  refine x_pure rfl rfl rfl (L_assign rfl) ?_
  refine EOps_nil ?_
  refine E_seq ?_
  refine E_region' (L := [0]) rfl ?_
  refine x_pure rfl rfl rfl (L_assign rfl) ?_
  refine EOps_nil ?_
  refine E_seq ?_
  refine e_tidy [0, 1, 2, 3, 4, 5] ?_ (hb := by simp only [E.keepOf, E.get, E.ev, E.cv, E.fill', E.fill, E.slotsOf, Res.sh, AC.sh, AC.sh.shs, AV.sh, E.splice, List.map_cons, List.map_nil, List.cons_append, List.nil_append, List.append_nil, List.length_cons, List.length_nil, List.take_zero, List.drop_zero, List.take_succ_cons, List.drop_succ_cons, List.drop_nil, List.take_nil, List.set_cons_zero, List.set_cons_succ, Nat.zero_add, Nat.add_zero, Nat.reduceAdd, Nat.reduceSub, reduceIte, Nat.reduceEqDiff, E.back, E.backR, E.ix, Res.un, AC.un, AC.un.uns, AV.un, E.un, Option.map_some, Option.map_none, Option.getD_some, List.getElem?_cons_zero, List.getElem?_cons_succ, List.getElem?_nil, crkO, crkR]; rfl) (hR := by (try simp only [E.keepOf, E.get, E.ev, E.cv, E.fill', E.fill, E.slotsOf, Res.sh, AC.sh, AC.sh.shs, AV.sh, E.splice, List.map_cons, List.map_nil, List.cons_append, List.nil_append, List.append_nil, List.length_cons, List.length_nil, List.take_zero, List.drop_zero, List.take_succ_cons, List.drop_succ_cons, List.drop_nil, List.take_nil, List.set_cons_zero, List.set_cons_succ, Nat.zero_add, Nat.add_zero, Nat.reduceAdd, Nat.reduceSub, reduceIte, Nat.reduceEqDiff, E.back, E.backR, E.ix, Res.un, AC.un, AC.un.uns, AV.un, E.un, Option.map_some, Option.map_none, Option.getD_some, List.getElem?_cons_zero, List.getElem?_cons_succ, List.getElem?_nil, crkO, crkR]); rfl)
  refine E_region' (L := [0, 1, 2, 3]) rfl ?_
  refine x_light rfl rfl rfl (L_load rfl (by first | exact d_bp ty_25 | exact ld_rp ty_25 rfl | exact d_ep ty_25)) ?_
  refine x_pure rfl rfl rfl (L_move rfl) ?_
  refine x_call rfl rfl rfl rfl rfl ca_15 (c_laws_szCracker (c) (1048576) (by omega)) ?_
  rintro r S ⟨rfl, rfl⟩
  refine x_pure rfl rfl rfl (L_assign rfl) ?_
  refine EOps_nil ?_
  refine E_seq ?_
  refine E_seq ?_
  refine E_region' (L := [0, 1]) rfl ?_
  refine x_pure rfl rfl rfl (L_move rfl) ?_
  refine x_pure rfl rfl rfl (L_bin rfl rfl rfl rfl) ?_
  refine EOps_nil ?_
  refine E_cond rfl (fun hc26 => ?_) (fun hc26 => ?_)
  · refine E_seq ?_
    refine E_region' (L := [0]) rfl ?_
    refine x_pure rfl rfl rfl (L_assign rfl) ?_
    refine EOps_nil ?_
    refine E_ret ?_
    refine ⟨_, [], rfl, rfl, ?_, rfl⟩
    simp [AV.ren, ren_sc, ren_ro, AC.ren, AC.ren.rens, ix, rv1, E.get, E.ev, E.cv, E.fill', E.fill, E.slotsOf, *]
  · have h0 : ¬ szR (1048576) (c.vals.length + c.rows.length + c.piv.length) < 0 := by simpa using hc26
    have hl0 := szR_le h0
    have hr0 := szR_rng (l := 1048576) (n := c.vals.length + c.rows.length + c.piv.length) (by omega)
    have ha0 : c.vals.length ≤ 1048576 ∧ c.rows.length ≤ 1048576 ∧ c.piv.length ≤ 1048576 := by omega
    have hw := c_spec_SelectRange c r ha0
    have hg := c_impl_SelectRange c r ha0
    have hle0 := sel_le (c := c) (r := r) ha0
    generalize selC c r = q at hw hg hle0
    generalize selLo c r = lo at hw hg
    generalize selHi c r = hi at hw hg
    generalize selN c r = n at hw hg
    refine E_skip ?_
    refine E_seq ?_
    refine e_tidy [0, 1, 2, 3, 4, 5, 26] ?_ (hb := by simp only [E.keepOf, E.get, E.ev, E.cv, E.fill', E.fill, E.slotsOf, Res.sh, AC.sh, AC.sh.shs, AV.sh, E.splice, List.map_cons, List.map_nil, List.cons_append, List.nil_append, List.append_nil, List.length_cons, List.length_nil, List.take_zero, List.drop_zero, List.take_succ_cons, List.drop_succ_cons, List.drop_nil, List.take_nil, List.set_cons_zero, List.set_cons_succ, Nat.zero_add, Nat.add_zero, Nat.reduceAdd, Nat.reduceSub, reduceIte, Nat.reduceEqDiff, E.back, E.backR, E.ix, Res.un, AC.un, AC.un.uns, AV.un, E.un, Option.map_some, Option.map_none, Option.getD_some, List.getElem?_cons_zero, List.getElem?_cons_succ, List.getElem?_nil, crkO, crkR]; rfl) (hR := by (try simp only [E.keepOf, E.get, E.ev, E.cv, E.fill', E.fill, E.slotsOf, Res.sh, AC.sh, AC.sh.shs, AV.sh, E.splice, List.map_cons, List.map_nil, List.cons_append, List.nil_append, List.append_nil, List.length_cons, List.length_nil, List.take_zero, List.drop_zero, List.take_succ_cons, List.drop_succ_cons, List.drop_nil, List.take_nil, List.set_cons_zero, List.set_cons_succ, Nat.zero_add, Nat.add_zero, Nat.reduceAdd, Nat.reduceSub, reduceIte, Nat.reduceEqDiff, E.back, E.backR, E.ix, Res.un, AC.un, AC.un.uns, AV.un, E.un, Option.map_some, Option.map_none, Option.getD_some, List.getElem?_cons_zero, List.getElem?_cons_succ, List.getElem?_nil, crkO, crkR]); rfl)
    refine E_drawT mixed ?_
    refine t_light 0 rfl rfl rfl (L_load rfl (by first | exact d_bp ty_25 | exact ld_rp ty_25 rfl | exact d_ep ty_25)) ?_
    refine t_light 2 rfl rfl rfl (L_load rfl (by first | exact d_bp ty_78 | exact ld_rp ty_78 rfl | exact d_ep ty_78)) ?_
    refine t_main 4 [(⟨none, 10, 6, 0⟩, _)] [(1, false), (3, false), (4, false), (5, true), (6, true), (7, true), (8, true), (9, true)] [29, 31, 32, 27, 33, 34, 35, 36] [(6, .any), (29, .any), (31, .any), (32, .any), (27, .any), (33, .any), (34, .any), (35, .any), (36, .any)] [1, 3, 4, 5, 6, 7, 8, 9, 10] ⟨.one rfl rfl rfl (by decide) (F_alloc rfl za_31), trivial⟩ ?_
    refine m_call rfl rfl rfl rfl rfl ca_17 (c_laws_toCracker c ha0) ?_
    rintro r S ⟨rfl, rfl⟩
    refine m_call rfl rfl rfl rfl rfl ca_55 (c_laws_toRange r.1 r.2) ?_
    rintro r S ⟨rfl, rfl⟩
    refine m_call rfl rfl rfl rfl rfl ca_54 (hw) ?_
    rintro r S ⟨rfl, rfl⟩
    refine m_pure rfl rfl rfl (L_move rfl) ?_
    refine m_pure rfl rfl rfl (L_extract rfl rfl) ?_
    refine m_pure rfl rfl rfl (L_extract rfl rfl) ?_
    refine m_pure rfl rfl rfl (L_extract rfl rfl) ?_
    refine m_pure rfl rfl rfl (L_extract rfl rfl) ?_
    refine m_done ?_
    refine fk_cons ?_
    rintro r S ⟨rfl, rfl⟩
    refine fk_nil ?_
    refine t_turn 11 rfl rfl (EOp_store rfl rfl rfl (by first | exact s_bp ty_31 | exact s_ep ty_31) ?_)
    refine t_old 12 rfl rfl rfl (L_assign rfl) ?_
    refine t_old 13 rfl rfl rfl (L_assign rfl) ?_
    refine t_old 14 rfl rfl rfl (L_assign rfl) ?_
    refine T_done (by kernel_rfl) ?_
    refine E_seq ?_
    refine e_tidy [0, 1, 2, 3, 4, 5, 6, 7, 8, 9, 26] ?_ (hb := by simp only [E.keepOf, E.get, E.ev, E.cv, E.fill', E.fill, E.slotsOf, Res.sh, AC.sh, AC.sh.shs, AV.sh, E.splice, List.map_cons, List.map_nil, List.cons_append, List.nil_append, List.append_nil, List.length_cons, List.length_nil, List.take_zero, List.drop_zero, List.take_succ_cons, List.drop_succ_cons, List.drop_nil, List.take_nil, List.set_cons_zero, List.set_cons_succ, Nat.zero_add, Nat.add_zero, Nat.reduceAdd, Nat.reduceSub, reduceIte, Nat.reduceEqDiff, E.back, E.backR, E.ix, Res.un, AC.un, AC.un.uns, AV.un, E.un, Option.map_some, Option.map_none, Option.getD_some, List.getElem?_cons_zero, List.getElem?_cons_succ, List.getElem?_nil, crkO, crkR]; rfl) (hR := by (try simp only [E.keepOf, E.get, E.ev, E.cv, E.fill', E.fill, E.slotsOf, Res.sh, AC.sh, AC.sh.shs, AV.sh, E.splice, List.map_cons, List.map_nil, List.cons_append, List.nil_append, List.append_nil, List.length_cons, List.length_nil, List.take_zero, List.drop_zero, List.take_succ_cons, List.drop_succ_cons, List.drop_nil, List.take_nil, List.set_cons_zero, List.set_cons_succ, Nat.zero_add, Nat.add_zero, Nat.reduceAdd, Nat.reduceSub, reduceIte, Nat.reduceEqDiff, E.back, E.backR, E.ix, Res.un, AC.un, AC.un.uns, AV.un, E.un, Option.map_some, Option.map_none, Option.getD_some, List.getElem?_cons_zero, List.getElem?_cons_succ, List.getElem?_nil, crkO, crkR]); rfl)
    refine E_region' (L := [0, 1, 2, 3]) rfl ?_
    refine x_light rfl rfl rfl (L_load rfl (by first | exact d_bp ty_25 | exact ld_rp ty_25 rfl | exact d_ep ty_25)) ?_
    refine x_call rfl rfl rfl rfl rfl ca_17 (c_laws_toCracker c ha0) ?_
    rintro r S ⟨rfl, rfl⟩
    refine x_alloc rfl rfl rfl rfl za_31 ?_
    refine EOps_go rfl rfl (EOp_store rfl rfl rfl (by first | exact s_bp ty_31 | exact s_ep ty_31) ?_)
    refine EOps_nil ?_
    refine E_seq ?_
    refine e_tidy [0, 1, 2, 3, 4, 5, 6, 7, 8, 9, 10, 26] ?_ (hb := by simp only [E.keepOf, E.get, E.ev, E.cv, E.fill', E.fill, E.slotsOf, Res.sh, AC.sh, AC.sh.shs, AV.sh, E.splice, List.map_cons, List.map_nil, List.cons_append, List.nil_append, List.append_nil, List.length_cons, List.length_nil, List.take_zero, List.drop_zero, List.take_succ_cons, List.drop_succ_cons, List.drop_nil, List.take_nil, List.set_cons_zero, List.set_cons_succ, Nat.zero_add, Nat.add_zero, Nat.reduceAdd, Nat.reduceSub, reduceIte, Nat.reduceEqDiff, E.back, E.backR, E.ix, Res.un, AC.un, AC.un.uns, AV.un, E.un, Option.map_some, Option.map_none, Option.getD_some, List.getElem?_cons_zero, List.getElem?_cons_succ, List.getElem?_nil, crkO, crkR]; rfl) (hR := by (try simp only [E.keepOf, E.get, E.ev, E.cv, E.fill', E.fill, E.slotsOf, Res.sh, AC.sh, AC.sh.shs, AV.sh, E.splice, List.map_cons, List.map_nil, List.cons_append, List.nil_append, List.append_nil, List.length_cons, List.length_nil, List.take_zero, List.drop_zero, List.take_succ_cons, List.drop_succ_cons, List.drop_nil, List.take_nil, List.set_cons_zero, List.set_cons_succ, Nat.zero_add, Nat.add_zero, Nat.reduceAdd, Nat.reduceSub, reduceIte, Nat.reduceEqDiff, E.back, E.backR, E.ix, Res.un, AC.un, AC.un.uns, AV.un, E.un, Option.map_some, Option.map_none, Option.getD_some, List.getElem?_cons_zero, List.getElem?_cons_succ, List.getElem?_nil, crkO, crkR]); rfl)
    refine E_drawT mixed ?_
    refine t_light 0 rfl rfl rfl (L_load rfl (by first | exact d_bp ty_31 | exact ld_rp ty_31 rfl | exact d_ep ty_31)) ?_
    refine t_light 1 rfl rfl rfl (L_load rfl (by first | exact d_bp ty_78 | exact ld_rp ty_78 rfl | exact d_ep ty_78)) ?_
    refine t_main 4 [(⟨none, 9, 11, 0⟩, _)] [(2, false), (3, false), (4, true), (5, true), (6, true), (7, true), (8, true)] [42, 43, 39, 44, 45, 46, 47] [(11, .any), (42, .any), (43, .any), (39, .any), (44, .any), (45, .any), (46, .any), (47, .any)] [2, 3, 4, 5, 6, 7, 8, 9] ⟨.one rfl rfl rfl (by decide) (F_alloc rfl za_31), trivial⟩ ?_
    refine m_call rfl rfl rfl rfl rfl ca_55 (c_laws_toRange r.1 r.2) ?_
    rintro r S ⟨rfl, rfl⟩
    refine m_call rfl rfl rfl rfl rfl ca_56 (hg) ?_
    rintro r S ⟨rfl, rfl⟩
    refine m_pure rfl rfl rfl (L_move rfl) ?_
    refine m_pure rfl rfl rfl (L_extract rfl rfl) ?_
    refine m_pure rfl rfl rfl (L_extract rfl rfl) ?_
    refine m_pure rfl rfl rfl (L_extract rfl rfl) ?_
    refine m_pure rfl rfl rfl (L_extract rfl rfl) ?_
    refine m_done ?_
    refine fk_cons ?_
    rintro r S ⟨rfl, rfl⟩
    refine fk_nil ?_
    refine t_turn 10 rfl rfl (EOp_store rfl rfl rfl (by first | exact s_bp ty_31 | exact s_ep ty_31) ?_)
    refine t_old 11 rfl rfl rfl (L_assign rfl) ?_
    refine t_old 12 rfl rfl rfl (L_assign rfl) ?_
    refine t_old 13 rfl rfl rfl (L_assign rfl) ?_
    refine T_done (by kernel_rfl) ?_
    refine E_seq ?_
    refine E_seq ?_
    refine e_tidy [0, 1, 2, 3, 4, 5, 6, 7, 8, 9, 10, 11, 12, 13, 14, 26] ?_ (hb := by simp only [E.keepOf, E.get, E.ev, E.cv, E.fill', E.fill, E.slotsOf, Res.sh, AC.sh, AC.sh.shs, AV.sh, E.splice, List.map_cons, List.map_nil, List.cons_append, List.nil_append, List.append_nil, List.length_cons, List.length_nil, List.take_zero, List.drop_zero, List.take_succ_cons, List.drop_succ_cons, List.drop_nil, List.take_nil, List.set_cons_zero, List.set_cons_succ, Nat.zero_add, Nat.add_zero, Nat.reduceAdd, Nat.reduceSub, reduceIte, Nat.reduceEqDiff, E.back, E.backR, E.ix, Res.un, AC.un, AC.un.uns, AV.un, E.un, Option.map_some, Option.map_none, Option.getD_some, List.getElem?_cons_zero, List.getElem?_cons_succ, List.getElem?_nil, crkO, crkR]; rfl) (hR := by (try simp only [E.keepOf, E.get, E.ev, E.cv, E.fill', E.fill, E.slotsOf, Res.sh, AC.sh, AC.sh.shs, AV.sh, E.splice, List.map_cons, List.map_nil, List.cons_append, List.nil_append, List.append_nil, List.length_cons, List.length_nil, List.take_zero, List.drop_zero, List.take_succ_cons, List.drop_succ_cons, List.drop_nil, List.take_nil, List.set_cons_zero, List.set_cons_succ, Nat.zero_add, Nat.add_zero, Nat.reduceAdd, Nat.reduceSub, reduceIte, Nat.reduceEqDiff, E.back, E.backR, E.ix, Res.un, AC.un, AC.un.uns, AV.un, E.un, Option.map_some, Option.map_none, Option.getD_some, List.getElem?_cons_zero, List.getElem?_cons_succ, List.getElem?_nil, crkO, crkR]); rfl)
    refine E_region' (L := [0, 1, 2, 3, 4, 5, 6, 7, 8, 9, 10, 11, 12, 13, 14, 15, 16, 17, 18]) rfl ?_
    refine x_light rfl rfl rfl (L_load rfl (by first | exact d_bp ty_31 | exact ld_rp ty_31 rfl | exact d_ep ty_31)) ?_
    refine x_light rfl rfl rfl (L_load rfl (by first | exact d_bp ty_31 | exact ld_rp ty_31 rfl | exact d_ep ty_31)) ?_
    refine x_call rfl rfl rfl rfl rfl ca_20 (c_laws_eqCracker q q) ?_
    rintro r S ⟨rfl, rfl⟩
    refine x_pure rfl rfl rfl (L_not rfl rfl) ?_
    refine x_pure rfl rfl rfl (L_move rfl) ?_
    refine EOps_split 52 (b := _) rfl (fun hg52 => ?_) (fun hg52 => ?_)
    · first | (simp at hg52; done) | (simp at hg52; omega)
    · refine x_pure rfl rfl rfl (L_move rfl) ?_
      refine x_pure rfl rfl rfl (L_move rfl) ?_
      refine x_pure rfl rfl rfl (L_bin rfl rfl rfl rfl) ?_
      refine x_pure rfl rfl rfl (L_pick rfl rfl) ?_
      refine x_pure rfl rfl rfl (L_move rfl) ?_
      refine EOps_split 57 (b := _) rfl (fun hg57 => ?_) (fun hg57 => ?_)
      · first | (simp at hg57; done) | (simp at hg57; omega)
      · refine x_pure rfl rfl rfl (L_move rfl) ?_
        refine x_pure rfl rfl rfl (L_move rfl) ?_
        refine x_pure rfl rfl rfl (L_bin rfl rfl rfl rfl) ?_
        refine x_pure rfl rfl rfl (L_pick rfl rfl) ?_
        refine x_pure rfl rfl rfl (L_move rfl) ?_
        refine EOps_split 62 (b := _) rfl (fun hg62 => ?_) (fun hg62 => ?_)
        · first | (simp at hg62; done) | (simp at hg62; omega)
        · refine x_pure rfl rfl rfl (L_move rfl) ?_
          refine x_pure rfl rfl rfl (L_move rfl) ?_
          refine x_pure rfl rfl rfl (L_bin rfl rfl rfl rfl) ?_
          refine x_pure rfl rfl rfl (L_pick rfl rfl) ?_
          refine EOps_nil ?_
          refine E_cond rfl (fun hc66 => ?_) (fun hc66 => ?_)
          · first | (simp at hc66; done) | (simp at hc66; omega)
          · refine E_skip ?_
            refine E_seq ?_
            refine E_seq ?_
            refine e_tidy [0, 1, 2, 3, 4, 5, 6, 7, 8, 9, 10, 11, 12, 13, 14, 26, 66] ?_ (hb := by simp only [E.keepOf, E.get, E.ev, E.cv, E.fill', E.fill, E.slotsOf, Res.sh, AC.sh, AC.sh.shs, AV.sh, E.splice, List.map_cons, List.map_nil, List.cons_append, List.nil_append, List.append_nil, List.length_cons, List.length_nil, List.take_zero, List.drop_zero, List.take_succ_cons, List.drop_succ_cons, List.drop_nil, List.take_nil, List.set_cons_zero, List.set_cons_succ, Nat.zero_add, Nat.add_zero, Nat.reduceAdd, Nat.reduceSub, reduceIte, Nat.reduceEqDiff, E.back, E.backR, E.ix, Res.un, AC.un, AC.un.uns, AV.un, E.un, Option.map_some, Option.map_none, Option.getD_some, List.getElem?_cons_zero, List.getElem?_cons_succ, List.getElem?_nil, crkO, crkR]; rfl) (hR := by (try simp only [E.keepOf, E.get, E.ev, E.cv, E.fill', E.fill, E.slotsOf, Res.sh, AC.sh, AC.sh.shs, AV.sh, E.splice, List.map_cons, List.map_nil, List.cons_append, List.nil_append, List.append_nil, List.length_cons, List.length_nil, List.take_zero, List.drop_zero, List.take_succ_cons, List.drop_succ_cons, List.drop_nil, List.take_nil, List.set_cons_zero, List.set_cons_succ, Nat.zero_add, Nat.add_zero, Nat.reduceAdd, Nat.reduceSub, reduceIte, Nat.reduceEqDiff, E.back, E.backR, E.ix, Res.un, AC.un, AC.un.uns, AV.un, E.un, Option.map_some, Option.map_none, Option.getD_some, List.getElem?_cons_zero, List.getElem?_cons_succ, List.getElem?_nil, crkO, crkR]); rfl)
            refine E_drawT mixed ?_
            refine t_light 0 rfl rfl rfl (L_load rfl (by first | exact d_bp ty_31 | exact ld_rp ty_31 rfl | exact d_ep ty_31)) ?_
            refine t_light 1 rfl rfl rfl (L_load rfl (by first | exact d_bp ty_25 | exact ld_rp ty_25 rfl | exact d_ep ty_25)) ?_
            refine t_call 2 rfl rfl rfl rfl rfl ca_17 (c_laws_toCracker c ha0) ?_
            rintro r S ⟨rfl, rfl⟩
            refine t_call 3 rfl rfl rfl rfl rfl ca_20 (c_laws_eqCracker c c) ?_
            rintro r S ⟨rfl, rfl⟩
            refine t_old 4 rfl rfl rfl (L_not rfl rfl) ?_
            refine T_done (by kernel_rfl) ?_
            refine E_cond rfl (fun hc71 => ?_) (fun hc71 => ?_)
            · first | (simp at hc71; done) | (simp at hc71; omega)
            · refine E_skip ?_
              refine E_seq ?_
              refine E_region' (L := [0]) rfl ?_
              refine x_pure rfl rfl rfl (L_assign rfl) ?_
              refine EOps_nil ?_
              refine E_seq ?_
              refine e_tidy [0, 1, 2, 3, 4, 5, 6, 7, 8, 9, 10, 11, 12, 13, 14, 15, 26, 66, 71] ?_ (hb := by simp only [E.keepOf, E.get, E.ev, E.cv, E.fill', E.fill, E.slotsOf, Res.sh, AC.sh, AC.sh.shs, AV.sh, E.splice, List.map_cons, List.map_nil, List.cons_append, List.nil_append, List.append_nil, List.length_cons, List.length_nil, List.take_zero, List.drop_zero, List.take_succ_cons, List.drop_succ_cons, List.drop_nil, List.take_nil, List.set_cons_zero, List.set_cons_succ, Nat.zero_add, Nat.add_zero, Nat.reduceAdd, Nat.reduceSub, reduceIte, Nat.reduceEqDiff, E.back, E.backR, E.ix, Res.un, AC.un, AC.un.uns, AV.un, E.un, Option.map_some, Option.map_none, Option.getD_some, List.getElem?_cons_zero, List.getElem?_cons_succ, List.getElem?_nil, crkO, crkR]; rfl) (hR := by (try simp only [E.keepOf, E.get, E.ev, E.cv, E.fill', E.fill, E.slotsOf, Res.sh, AC.sh, AC.sh.shs, AV.sh, E.splice, List.map_cons, List.map_nil, List.cons_append, List.nil_append, List.append_nil, List.length_cons, List.length_nil, List.take_zero, List.drop_zero, List.take_succ_cons, List.drop_succ_cons, List.drop_nil, List.take_nil, List.set_cons_zero, List.set_cons_succ, Nat.zero_add, Nat.add_zero, Nat.reduceAdd, Nat.reduceSub, reduceIte, Nat.reduceEqDiff, E.back, E.backR, E.ix, Res.un, AC.un, AC.un.uns, AV.un, E.un, Option.map_some, Option.map_none, Option.getD_some, List.getElem?_cons_zero, List.getElem?_cons_succ, List.getElem?_nil, crkO, crkR]); rfl)
              refine E_region' (L := [0, 1, 2, 3]) rfl ?_
              refine x_light rfl rfl rfl (L_load rfl (by first | exact d_bp ty_31 | exact ld_rp ty_31 rfl | exact d_ep ty_31)) ?_
              refine x_pure rfl rfl rfl (L_move rfl) ?_
              refine x_frame [9, 10, 11] rfl rfl rfl rfl rfl ca_21 rfl (c_laws_markCracker _ _ _ (1) c _ _ _ rfl rfl rfl ha0 (by omega)) ?_
              rintro r S ⟨r0, S0, ⟨rfl, rfl⟩, rfl, rfl⟩
              refine x_pure rfl rfl rfl (L_assign rfl) ?_
              refine EOps_nil ?_
              refine E_seq ?_
              refine E_seq ?_
              refine e_tidy [0, 1, 2, 3, 4, 5, 6, 7, 8, 9, 10, 11, 12, 13, 14, 15, 26, 66, 71] ?_ (hb := by simp only [E.keepOf, E.get, E.ev, E.cv, E.fill', E.fill, E.slotsOf, Res.sh, AC.sh, AC.sh.shs, AV.sh, E.splice, List.map_cons, List.map_nil, List.cons_append, List.nil_append, List.append_nil, List.length_cons, List.length_nil, List.take_zero, List.drop_zero, List.take_succ_cons, List.drop_succ_cons, List.drop_nil, List.take_nil, List.set_cons_zero, List.set_cons_succ, Nat.zero_add, Nat.add_zero, Nat.reduceAdd, Nat.reduceSub, reduceIte, Nat.reduceEqDiff, E.back, E.backR, E.ix, Res.un, AC.un, AC.un.uns, AV.un, E.un, Option.map_some, Option.map_none, Option.getD_some, List.getElem?_cons_zero, List.getElem?_cons_succ, List.getElem?_nil, crkO, crkR]; rfl) (hR := by (try simp only [E.keepOf, E.get, E.ev, E.cv, E.fill', E.fill, E.slotsOf, Res.sh, AC.sh, AC.sh.shs, AV.sh, E.splice, List.map_cons, List.map_nil, List.cons_append, List.nil_append, List.append_nil, List.length_cons, List.length_nil, List.take_zero, List.drop_zero, List.take_succ_cons, List.drop_succ_cons, List.drop_nil, List.take_nil, List.set_cons_zero, List.set_cons_succ, Nat.zero_add, Nat.add_zero, Nat.reduceAdd, Nat.reduceSub, reduceIte, Nat.reduceEqDiff, E.back, E.backR, E.ix, Res.un, AC.un, AC.un.uns, AV.un, E.un, Option.map_some, Option.map_none, Option.getD_some, List.getElem?_cons_zero, List.getElem?_cons_succ, List.getElem?_nil, crkO, crkR]); rfl)
              refine E_region' (L := [0, 1, 2, 3, 4, 5, 6, 7, 8, 9, 10, 11, 12, 13, 14, 15, 16, 17, 18, 19, 20, 21, 22]) rfl ?_
              refine x_pure rfl rfl rfl (L_move rfl) ?_
              refine x_pure rfl rfl rfl (L_bin rfl rfl rfl rfl) ?_
              refine x_pure rfl rfl rfl (L_move rfl) ?_
              refine EOps_split 77 (b := _) rfl (fun hg77 => ?_) (fun hg77 => ?_)
              · first | (simp at hg77; done) | (simp at hg77; omega)
              · refine x_light rfl rfl rfl (L_load rfl (by first | exact d_bp ty_31 | exact ld_rp ty_31 rfl | exact d_ep ty_31)) ?_
                refine x_light rfl rfl rfl (L_load rfl (by first | exact d_bp ty_31 | exact ld_rp ty_31 rfl | exact d_ep ty_31)) ?_
                refine x_call rfl rfl rfl rfl rfl ca_20 (c_laws_eqCracker q q) ?_
                rintro r S ⟨rfl, rfl⟩
                refine x_pure rfl rfl rfl (L_not rfl rfl) ?_
                refine x_pure rfl rfl rfl (L_pick rfl rfl) ?_
                refine x_pure rfl rfl rfl (L_move rfl) ?_
                refine EOps_split 83 (b := _) rfl (fun hg83 => ?_) (fun hg83 => ?_)
                · first | (simp at hg83; done) | (simp at hg83; omega)
                · refine x_pure rfl rfl rfl (L_move rfl) ?_
                  refine x_pure rfl rfl rfl (L_move rfl) ?_
                  refine x_pure rfl rfl rfl (L_bin rfl rfl rfl rfl) ?_
                  refine x_pure rfl rfl rfl (L_pick rfl rfl) ?_
                  refine x_pure rfl rfl rfl (L_move rfl) ?_
                  refine EOps_split 88 (b := _) rfl (fun hg88 => ?_) (fun hg88 => ?_)
                  · first | (simp at hg88; done) | (simp at hg88; omega)
                  · refine x_pure rfl rfl rfl (L_move rfl) ?_
                    refine x_pure rfl rfl rfl (L_move rfl) ?_
                    refine x_pure rfl rfl rfl (L_bin rfl rfl rfl rfl) ?_
                    refine x_pure rfl rfl rfl (L_pick rfl rfl) ?_
                    refine x_pure rfl rfl rfl (L_move rfl) ?_
                    refine EOps_split 93 (b := _) rfl (fun hg93 => ?_) (fun hg93 => ?_)
                    · first | (simp at hg93; done) | (simp at hg93; omega)
                    · refine x_pure rfl rfl rfl (L_move rfl) ?_
                      refine x_pure rfl rfl rfl (L_move rfl) ?_
                      refine x_pure rfl rfl rfl (L_bin rfl rfl rfl rfl) ?_
                      refine x_pure rfl rfl rfl (L_pick rfl rfl) ?_
                      refine EOps_nil ?_
                      refine E_cond rfl (fun hc97 => ?_) (fun hc97 => ?_)
                      · first | (simp at hc97; done) | (simp at hc97; omega)
                      · refine E_skip ?_
                        refine E_seq ?_
                        refine E_region' (L := [0]) rfl ?_
                        refine x_pure rfl rfl rfl (L_assign rfl) ?_
                        refine EOps_nil ?_
                        refine E_seq ?_
                        refine e_tidy [0, 1, 2, 3, 4, 5, 6, 7, 8, 9, 10, 11, 12, 13, 14, 15, 16, 26, 66, 71, 97] ?_ (hb := by simp only [E.keepOf, E.get, E.ev, E.cv, E.fill', E.fill, E.slotsOf, Res.sh, AC.sh, AC.sh.shs, AV.sh, E.splice, List.map_cons, List.map_nil, List.cons_append, List.nil_append, List.append_nil, List.length_cons, List.length_nil, List.take_zero, List.drop_zero, List.take_succ_cons, List.drop_succ_cons, List.drop_nil, List.take_nil, List.set_cons_zero, List.set_cons_succ, Nat.zero_add, Nat.add_zero, Nat.reduceAdd, Nat.reduceSub, reduceIte, Nat.reduceEqDiff, E.back, E.backR, E.ix, Res.un, AC.un, AC.un.uns, AV.un, E.un, Option.map_some, Option.map_none, Option.getD_some, List.getElem?_cons_zero, List.getElem?_cons_succ, List.getElem?_nil, crkO, crkR]; rfl) (hR := by (try simp only [E.keepOf, E.get, E.ev, E.cv, E.fill', E.fill, E.slotsOf, Res.sh, AC.sh, AC.sh.shs, AV.sh, E.splice, List.map_cons, List.map_nil, List.cons_append, List.nil_append, List.append_nil, List.length_cons, List.length_nil, List.take_zero, List.drop_zero, List.take_succ_cons, List.drop_succ_cons, List.drop_nil, List.take_nil, List.set_cons_zero, List.set_cons_succ, Nat.zero_add, Nat.add_zero, Nat.reduceAdd, Nat.reduceSub, reduceIte, Nat.reduceEqDiff, E.back, E.backR, E.ix, Res.un, AC.un, AC.un.uns, AV.un, E.un, Option.map_some, Option.map_none, Option.getD_some, List.getElem?_cons_zero, List.getElem?_cons_succ, List.getElem?_nil, crkO, crkR]); rfl)
                        refine E_region' (L := [0, 1, 2, 3]) rfl ?_
                        refine x_light rfl rfl rfl (L_load rfl (by first | exact d_bp ty_31 | exact ld_rp ty_31 rfl | exact d_ep ty_31)) ?_
                        refine x_pure rfl rfl rfl (L_move rfl) ?_
                        refine x_frame [13, 14, 15] rfl rfl rfl rfl rfl ca_21 rfl (c_laws_markCracker _ _ _ (1) q _ _ _ rfl rfl rfl hle0 (by omega)) ?_
                        rintro r S ⟨r0, S0, ⟨rfl, rfl⟩, rfl, rfl⟩
                        refine x_pure rfl rfl rfl (L_assign rfl) ?_
                        refine EOps_nil ?_
                        refine E_seq ?_
                        refine E_region' (L := [0]) rfl ?_
                        refine x_pure rfl rfl rfl (L_assign rfl) ?_
                        refine EOps_nil ?_
                        refine E_seq ?_
                        refine e_tidy [0, 1, 2, 3, 4, 5, 6, 7, 8, 9, 10, 11, 12, 13, 14, 15, 16, 17, 26, 66, 71, 97] ?_ (hb := by simp only [E.keepOf, E.get, E.ev, E.cv, E.fill', E.fill, E.slotsOf, Res.sh, AC.sh, AC.sh.shs, AV.sh, E.splice, List.map_cons, List.map_nil, List.cons_append, List.nil_append, List.append_nil, List.length_cons, List.length_nil, List.take_zero, List.drop_zero, List.take_succ_cons, List.drop_succ_cons, List.drop_nil, List.take_nil, List.set_cons_zero, List.set_cons_succ, Nat.zero_add, Nat.add_zero, Nat.reduceAdd, Nat.reduceSub, reduceIte, Nat.reduceEqDiff, E.back, E.backR, E.ix, Res.un, AC.un, AC.un.uns, AV.un, E.un, Option.map_some, Option.map_none, Option.getD_some, List.getElem?_cons_zero, List.getElem?_cons_succ, List.getElem?_nil, crkO, crkR]; rfl) (hR := by (try simp only [E.keepOf, E.get, E.ev, E.cv, E.fill', E.fill, E.slotsOf, Res.sh, AC.sh, AC.sh.shs, AV.sh, E.splice, List.map_cons, List.map_nil, List.cons_append, List.nil_append, List.append_nil, List.length_cons, List.length_nil, List.take_zero, List.drop_zero, List.take_succ_cons, List.drop_succ_cons, List.drop_nil, List.take_nil, List.set_cons_zero, List.set_cons_succ, Nat.zero_add, Nat.add_zero, Nat.reduceAdd, Nat.reduceSub, reduceIte, Nat.reduceEqDiff, E.back, E.backR, E.ix, Res.un, AC.un, AC.un.uns, AV.un, E.un, Option.map_some, Option.map_none, Option.getD_some, List.getElem?_cons_zero, List.getElem?_cons_succ, List.getElem?_nil, crkO, crkR]); rfl)
                        refine E_region' (L := [0, 1, 2, 3]) rfl ?_
                        refine x_light rfl rfl rfl (L_load rfl (by first | exact d_bp ty_31 | exact ld_rp ty_31 rfl | exact d_ep ty_31)) ?_
                        refine x_pure rfl rfl rfl (L_move rfl) ?_
                        refine x_call rfl rfl rfl rfl rfl ca_57 (c_laws_heldCracker (1) (q.vals.length) (q.rows.length) (q.piv.length) hle0 (by omega)) ?_ (ha := by exact cons_eq (agg_eq (cons_eq (lendC_whole rfl (by simp [ints_len, seqF_len])) (cons_eq (lendC_whole rfl (by simp [ints_len, seqF_len])) (cons_eq (lendC_whole rfl (by simp [pairs_len, seqP_len])) rfl)))) (cons_eq rfl rfl))
                        rintro r S ⟨rfl, rfl⟩
                        refine x_pure rfl rfl rfl (L_assign rfl) ?_
                        refine EOps_nil ?_
                        refine E_seq ?_
                        refine E_seq ?_
                        refine E_region' (L := [0, 1]) rfl ?_
                        refine x_pure rfl rfl rfl (L_move rfl) ?_
                        refine x_pure rfl rfl rfl (L_bin rfl rfl rfl rfl) ?_
                        refine EOps_nil ?_
                        refine E_cond rfl (fun hc105 => ?_) (fun hc105 => ?_)
                        · first | (simp at hc105; done) | (simp at hc105; omega)
                        · refine E_skip ?_
                          refine E_seq ?_
                          refine E_seq ?_
                          refine E_region' (L := [0, 1, 2]) rfl ?_
                          refine x_pure rfl rfl rfl (L_move rfl) ?_
                          refine x_pure rfl rfl rfl (L_move rfl) ?_
                          refine x_pure rfl rfl rfl (L_bin rfl rfl rfl rfl) ?_
                          refine EOps_nil ?_
                          refine E_cond rfl (fun hc108 => ?_) (fun hc108 => ?_)
                          · first | (simp at hc108; done) | (simp at hc108; omega)
                          · refine E_skip ?_
                            refine E_seq ?_
                            refine e_tidy [0, 1, 2, 3, 4, 5, 6, 7, 8, 9, 10, 11, 12, 13, 14, 15, 16, 17, 26, 66, 71, 97, 105, 108] ?_ (hb := by simp only [E.keepOf, E.get, E.ev, E.cv, E.fill', E.fill, E.slotsOf, Res.sh, AC.sh, AC.sh.shs, AV.sh, E.splice, List.map_cons, List.map_nil, List.cons_append, List.nil_append, List.append_nil, List.length_cons, List.length_nil, List.take_zero, List.drop_zero, List.take_succ_cons, List.drop_succ_cons, List.drop_nil, List.take_nil, List.set_cons_zero, List.set_cons_succ, Nat.zero_add, Nat.add_zero, Nat.reduceAdd, Nat.reduceSub, reduceIte, Nat.reduceEqDiff, E.back, E.backR, E.ix, Res.un, AC.un, AC.un.uns, AV.un, E.un, Option.map_some, Option.map_none, Option.getD_some, List.getElem?_cons_zero, List.getElem?_cons_succ, List.getElem?_nil, crkO, crkR]; rfl) (hR := by (try simp only [E.keepOf, E.get, E.ev, E.cv, E.fill', E.fill, E.slotsOf, Res.sh, AC.sh, AC.sh.shs, AV.sh, E.splice, List.map_cons, List.map_nil, List.cons_append, List.nil_append, List.append_nil, List.length_cons, List.length_nil, List.take_zero, List.drop_zero, List.take_succ_cons, List.drop_succ_cons, List.drop_nil, List.take_nil, List.set_cons_zero, List.set_cons_succ, Nat.zero_add, Nat.add_zero, Nat.reduceAdd, Nat.reduceSub, reduceIte, Nat.reduceEqDiff, E.back, E.backR, E.ix, Res.un, AC.un, AC.un.uns, AV.un, E.un, Option.map_some, Option.map_none, Option.getD_some, List.getElem?_cons_zero, List.getElem?_cons_succ, List.getElem?_nil, crkO, crkR]); rfl)
                            refine E_drawT mixed ?_
                            refine t_light 0 rfl rfl rfl (L_load rfl (by first | exact d_bp ty_25 | exact ld_rp ty_25 rfl | exact d_ep ty_25)) ?_
                            refine t_light 2 rfl rfl rfl (L_load rfl (by first | exact d_bp ty_78 | exact ld_rp ty_78 rfl | exact d_ep ty_78)) ?_
                            refine t_main 4 [(⟨none, 10, 18, 0⟩, _)] [(1, false), (3, false), (4, false), (5, true), (6, true), (7, true), (8, true), (9, true)] [111, 113, 114, 109, 115, 116, 117, 118] [(18, .any), (111, .any), (113, .any), (114, .any), (109, .any), (115, .any), (116, .any), (117, .any), (118, .any)] [1, 3, 4, 5, 6, 7, 8, 9, 10] ⟨.one rfl rfl rfl (by decide) (F_alloc rfl za_31), trivial⟩ ?_
                            refine m_call rfl rfl rfl rfl rfl ca_17 (c_laws_toCracker c ha0) ?_
                            rintro r S ⟨rfl, rfl⟩
                            refine m_call rfl rfl rfl rfl rfl ca_55 (c_laws_toRange r.1 r.2) ?_
                            rintro r S ⟨rfl, rfl⟩
                            refine m_call rfl rfl rfl rfl rfl ca_56 (hg) ?_
                            rintro r S ⟨rfl, rfl⟩
                            refine m_pure rfl rfl rfl (L_move rfl) ?_
                            refine m_pure rfl rfl rfl (L_extract rfl rfl) ?_
                            refine m_pure rfl rfl rfl (L_extract rfl rfl) ?_
                            refine m_pure rfl rfl rfl (L_extract rfl rfl) ?_
                            refine m_pure rfl rfl rfl (L_extract rfl rfl) ?_
                            refine m_done ?_
                            refine fk_cons ?_
                            rintro r S ⟨rfl, rfl⟩
                            refine fk_nil ?_
                            refine t_turn 11 rfl rfl (EOp_store rfl rfl rfl (by first | exact s_bp ty_31 | exact s_ep ty_31) ?_)
                            refine t_old 12 rfl rfl rfl (L_assign rfl) ?_
                            refine t_old 13 rfl rfl rfl (L_assign rfl) ?_
                            refine t_old 14 rfl rfl rfl (L_assign rfl) ?_
                            refine T_done (by kernel_rfl) ?_
                            refine E_seq ?_
                            refine E_seq ?_
                            refine e_tidy [0, 1, 2, 3, 4, 5, 6, 7, 8, 9, 10, 11, 12, 13, 14, 15, 16, 17, 18, 19, 20, 21, 26, 66, 71, 97, 105, 108] ?_ (hb := by simp only [E.keepOf, E.get, E.ev, E.cv, E.fill', E.fill, E.slotsOf, Res.sh, AC.sh, AC.sh.shs, AV.sh, E.splice, List.map_cons, List.map_nil, List.cons_append, List.nil_append, List.append_nil, List.length_cons, List.length_nil, List.take_zero, List.drop_zero, List.take_succ_cons, List.drop_succ_cons, List.drop_nil, List.take_nil, List.set_cons_zero, List.set_cons_succ, Nat.zero_add, Nat.add_zero, Nat.reduceAdd, Nat.reduceSub, reduceIte, Nat.reduceEqDiff, E.back, E.backR, E.ix, Res.un, AC.un, AC.un.uns, AV.un, E.un, Option.map_some, Option.map_none, Option.getD_some, List.getElem?_cons_zero, List.getElem?_cons_succ, List.getElem?_nil, crkO, crkR]; rfl) (hR := by (try simp only [E.keepOf, E.get, E.ev, E.cv, E.fill', E.fill, E.slotsOf, Res.sh, AC.sh, AC.sh.shs, AV.sh, E.splice, List.map_cons, List.map_nil, List.cons_append, List.nil_append, List.append_nil, List.length_cons, List.length_nil, List.take_zero, List.drop_zero, List.take_succ_cons, List.drop_succ_cons, List.drop_nil, List.take_nil, List.set_cons_zero, List.set_cons_succ, Nat.zero_add, Nat.add_zero, Nat.reduceAdd, Nat.reduceSub, reduceIte, Nat.reduceEqDiff, E.back, E.backR, E.ix, Res.un, AC.un, AC.un.uns, AV.un, E.un, Option.map_some, Option.map_none, Option.getD_some, List.getElem?_cons_zero, List.getElem?_cons_succ, List.getElem?_nil, crkO, crkR]); rfl)
                            refine E_region' (L := [0, 1, 2, 3, 4, 5, 6, 7, 8, 9, 10, 11, 12, 13, 14, 15, 16, 17, 18]) rfl ?_
                            refine x_light rfl rfl rfl (L_load rfl (by first | exact d_bp ty_31 | exact ld_rp ty_31 rfl | exact d_ep ty_31)) ?_
                            refine x_light rfl rfl rfl (L_load rfl (by first | exact d_bp ty_31 | exact ld_rp ty_31 rfl | exact d_ep ty_31)) ?_
                            refine x_call rfl rfl rfl rfl rfl ca_20 (c_laws_eqCracker q q) ?_
                            rintro r S ⟨rfl, rfl⟩
                            refine x_pure rfl rfl rfl (L_not rfl rfl) ?_
                            refine x_pure rfl rfl rfl (L_move rfl) ?_
                            refine EOps_split 123 (b := _) rfl (fun hg123 => ?_) (fun hg123 => ?_)
                            · first | (simp at hg123; done) | (simp at hg123; omega)
                            · refine x_pure rfl rfl rfl (L_move rfl) ?_
                              refine x_pure rfl rfl rfl (L_move rfl) ?_
                              refine x_pure rfl rfl rfl (L_bin rfl rfl rfl rfl) ?_
                              refine x_pure rfl rfl rfl (L_pick rfl rfl) ?_
                              refine x_pure rfl rfl rfl (L_move rfl) ?_
                              refine EOps_split 128 (b := _) rfl (fun hg128 => ?_) (fun hg128 => ?_)
                              · first | (simp at hg128; done) | (simp at hg128; omega)
                              · refine x_pure rfl rfl rfl (L_move rfl) ?_
                                refine x_pure rfl rfl rfl (L_move rfl) ?_
                                refine x_pure rfl rfl rfl (L_bin rfl rfl rfl rfl) ?_
                                refine x_pure rfl rfl rfl (L_pick rfl rfl) ?_
                                refine x_pure rfl rfl rfl (L_move rfl) ?_
                                refine EOps_split 133 (b := _) rfl (fun hg133 => ?_) (fun hg133 => ?_)
                                · first | (simp at hg133; done) | (simp at hg133; omega)
                                · refine x_pure rfl rfl rfl (L_move rfl) ?_
                                  refine x_pure rfl rfl rfl (L_move rfl) ?_
                                  refine x_pure rfl rfl rfl (L_bin rfl rfl rfl rfl) ?_
                                  refine x_pure rfl rfl rfl (L_pick rfl rfl) ?_
                                  refine EOps_nil ?_
                                  refine E_cond rfl (fun hc137 => ?_) (fun hc137 => ?_)
                                  · first | (simp at hc137; done) | (simp at hc137; omega)
                                  · refine E_skip ?_
                                    refine E_seq ?_
                                    refine E_region' (L := [0]) rfl ?_
                                    refine x_pure rfl rfl rfl (L_assign rfl) ?_
                                    refine EOps_nil ?_
                                    refine E_seq ?_
                                    refine e_tidy [0, 1, 2, 3, 4, 5, 6, 7, 8, 9, 10, 11, 12, 13, 14, 15, 16, 17, 18, 19, 20, 21, 26, 66, 71, 97, 105, 108, 137] ?_ (hb := by simp only [E.keepOf, E.get, E.ev, E.cv, E.fill', E.fill, E.slotsOf, Res.sh, AC.sh, AC.sh.shs, AV.sh, E.splice, List.map_cons, List.map_nil, List.cons_append, List.nil_append, List.append_nil, List.length_cons, List.length_nil, List.take_zero, List.drop_zero, List.take_succ_cons, List.drop_succ_cons, List.drop_nil, List.take_nil, List.set_cons_zero, List.set_cons_succ, Nat.zero_add, Nat.add_zero, Nat.reduceAdd, Nat.reduceSub, reduceIte, Nat.reduceEqDiff, E.back, E.backR, E.ix, Res.un, AC.un, AC.un.uns, AV.un, E.un, Option.map_some, Option.map_none, Option.getD_some, List.getElem?_cons_zero, List.getElem?_cons_succ, List.getElem?_nil, crkO, crkR]; rfl) (hR := by (try simp only [E.keepOf, E.get, E.ev, E.cv, E.fill', E.fill, E.slotsOf, Res.sh, AC.sh, AC.sh.shs, AV.sh, E.splice, List.map_cons, List.map_nil, List.cons_append, List.nil_append, List.append_nil, List.length_cons, List.length_nil, List.take_zero, List.drop_zero, List.take_succ_cons, List.drop_succ_cons, List.drop_nil, List.take_nil, List.set_cons_zero, List.set_cons_succ, Nat.zero_add, Nat.add_zero, Nat.reduceAdd, Nat.reduceSub, reduceIte, Nat.reduceEqDiff, E.back, E.backR, E.ix, Res.un, AC.un, AC.un.uns, AV.un, E.un, Option.map_some, Option.map_none, Option.getD_some, List.getElem?_cons_zero, List.getElem?_cons_succ, List.getElem?_nil, crkO, crkR]); rfl)
                                    refine E_region' (L := [0, 1, 2, 3]) rfl ?_
                                    refine x_light rfl rfl rfl (L_load rfl (by first | exact d_bp ty_31 | exact ld_rp ty_31 rfl | exact d_ep ty_31)) ?_
                                    refine x_pure rfl rfl rfl (L_move rfl) ?_
                                    refine x_call rfl rfl rfl rfl rfl ca_57 (c_laws_heldCracker (1) (q.vals.length) (q.rows.length) (q.piv.length) hle0 (by omega)) ?_ (ha := by exact cons_eq (agg_eq (cons_eq (lendC_whole rfl (by simp [ints_len, seqF_len])) (cons_eq (lendC_whole rfl (by simp [ints_len, seqF_len])) (cons_eq (lendC_whole rfl (by simp [pairs_len, seqP_len])) rfl)))) (cons_eq rfl rfl))
                                    rintro r S ⟨rfl, rfl⟩
                                    refine x_pure rfl rfl rfl (L_assign rfl) ?_
                                    refine EOps_nil ?_
                                    refine E_seq ?_
                                    refine E_seq ?_
                                    refine E_region' (L := [0, 1]) rfl ?_
                                    refine x_pure rfl rfl rfl (L_move rfl) ?_
                                    refine x_pure rfl rfl rfl (L_bin rfl rfl rfl rfl) ?_
                                    refine EOps_nil ?_
                                    refine E_cond rfl (fun hc142 => ?_) (fun hc142 => ?_)
                                    · first | (simp at hc142; done) | (simp at hc142; omega)
                                    · refine E_skip ?_
                                      refine E_seq ?_
                                      refine E_seq ?_
                                      refine E_region' (L := [0, 1, 2]) rfl ?_
                                      refine x_pure rfl rfl rfl (L_move rfl) ?_
                                      refine x_pure rfl rfl rfl (L_move rfl) ?_
                                      refine x_pure rfl rfl rfl (L_bin rfl rfl rfl rfl) ?_
                                      refine EOps_nil ?_
                                      refine E_cond rfl (fun hc145 => ?_) (fun hc145 => ?_)
                                      · first | (simp at hc145; done) | (simp at hc145; omega)
                                      · refine E_skip ?_
                                        refine E_seq ?_
                                        refine E_region' (L := [0]) rfl ?_
                                        refine x_pure rfl rfl rfl (L_assign rfl) ?_
                                        refine EOps_nil ?_
                                        refine E_ret ?_
                                        refine ⟨_, [], rfl, rfl, ?_, rfl⟩
                                        simp [AV.ren, ren_sc, ren_ro, AC.ren, AC.ren.rens, ix, rv1, E.get, E.ev, E.cv, E.fill', E.fill, E.slotsOf, *]

end Go.Proofs.Ytkaikajjhhnifaa.E
