/- Walks through functions, by program out of the session's annotations. -/
import Derived.Test.YtmajgcalliojlaaA68
import Derived.Test.YtmajgcalliojlaaA09
import Derived.Test.YtmajgcalliojlaaF3
namespace Go.Proofs.Ytmajgcalliojlaa.E
open Go Go.RowKit Go.Proofs
set_option linter.unusedVariables false
set_option linter.unusedSimpArgs false

set_option maxRecDepth 20000 in
set_option maxHeartbeats 4000000 in
theorem c_laws_FnExactLargestValues (c : Crk) (k : Int) : EFn Try.prog 9 [.agg (crkC c), .c (.sc (.int .i64 k))] [] (fun r S => r = .c (.sc (.bool true)) ∧ S = []) := by
  refine E_fn Try.func9 rfl (Nat.le_of_ble_eq_true rfl) ?_
  refine E_seq ?_
  refine E_region' (L := [0, 1]) rfl ?_
  refine x_box rfl rfl rfl rfl rfl ?_
  refine x_pure rfl rfl rfl (L_assign rfl) ?_
  refine EOps_nil ?_
  refine E_seq ?_
  refine E_region' (L := [0]) rfl ?_
  refine x_pure rfl rfl rfl (L_assign rfl) ?_
  refine EOps_nil ?_
  refine E_seq ?_
  refine e_tidy [0, 1, 2, 4, 5] ?_ (hb := by simp only [E.keepOf, E.get, E.ev, E.cv, E.fill', E.fill, E.slotsOf, Res.sh, AC.sh, AC.sh.shs, AV.sh, E.splice, List.map_cons, List.map_nil, List.cons_append, List.nil_append, List.append_nil, List.length_cons, List.length_nil, List.take_zero, List.drop_zero, List.take_succ_cons, List.drop_succ_cons, List.drop_nil, List.take_nil, List.set_cons_zero, List.set_cons_succ, Nat.zero_add, Nat.add_zero, Nat.reduceAdd, Nat.reduceSub, reduceIte, Nat.reduceEqDiff, E.back, E.backR, E.ix, Res.un, AC.un, AC.un.uns, AV.un, E.un, Option.map_some, Option.map_none, Option.getD_some, List.getElem?_cons_zero, List.getElem?_cons_succ, List.getElem?_nil, crkO, crkR]; rfl) (hR := by (try simp only [E.keepOf, E.get, E.ev, E.cv, E.fill', E.fill, E.slotsOf, Res.sh, AC.sh, AC.sh.shs, AV.sh, E.splice, List.map_cons, List.map_nil, List.cons_append, List.nil_append, List.append_nil, List.length_cons, List.length_nil, List.take_zero, List.drop_zero, List.take_succ_cons, List.drop_succ_cons, List.drop_nil, List.take_nil, List.set_cons_zero, List.set_cons_succ, Nat.zero_add, Nat.add_zero, Nat.reduceAdd, Nat.reduceSub, reduceIte, Nat.reduceEqDiff, E.back, E.backR, E.ix, Res.un, AC.un, AC.un.uns, AV.un, E.un, Option.map_some, Option.map_none, Option.getD_some, List.getElem?_cons_zero, List.getElem?_cons_succ, List.getElem?_nil, crkO, crkR]); rfl)
  refine E_region' (L := [0, 1, 2, 3]) rfl ?_
  refine x_light rfl rfl rfl (L_load rfl (by first | exact d_bp ty_25 | exact ld_rp ty_25 rfl | exact d_ep ty_25)) ?_
  refine x_pure rfl rfl rfl (L_move rfl) ?_
  refine x_call rfl rfl rfl rfl rfl ca_14 (c_laws_szCracker (c) (1048576) (by omega)) ?_
  rintro r S ⟨rfl, rfl⟩
  refine x_pure rfl rfl rfl (L_assign rfl) ?_
  refine EOps_nil ?_
  refine E_seq ?_
  refine E_seq ?_
  refine E_region' (L := [0, 1]) rfl ?_
  refine x_pure rfl rfl rfl (L_move rfl) ?_
  refine x_pure rfl rfl rfl (L_bin rfl rfl rfl rfl) ?_
  refine EOps_nil ?_
  refine E_cond rfl (fun hc20 => ?_) (fun hc20 => ?_)
  · refine E_seq ?_
    refine E_region' (L := [0]) rfl ?_
    refine x_pure rfl rfl rfl (L_assign rfl) ?_
    refine EOps_nil ?_
    refine E_ret ?_
    refine ⟨_, [], rfl, rfl, ?_, rfl⟩
    simp [AV.ren, ren_sc, ren_ro, AC.ren, AC.ren.rens, ix, rv1, E.get, E.ev, E.cv, E.fill', E.fill, E.slotsOf, *]
  · have h0 : ¬ szR (1048576) (c.vals.length + c.rows.length + c.piv.length) < 0 := by simpa using hc20
    have hl0 := szR_le h0
    have hr0 := szR_rng (l := 1048576) (n := c.vals.length + c.rows.length + c.piv.length) (by omega)
    have ha0 : c.vals.length ≤ 1048576 ∧ c.rows.length ≤ 1048576 ∧ c.piv.length ≤ 1048576 := by omega
    have hw := c_spec_LargestValues c k ha0
    have hg := c_impl_LargestValues c k ha0
    have hle0 := lgC_le (k := k) ha0
    have hle1 := lgL_le (c := c) (k := k)
    generalize lgC c k = q at hw hg hle0
    generalize lgL c k = l at hw hg hle1
    refine E_skip ?_
    refine E_seq ?_
    refine e_tidy [0, 1, 2, 4, 5, 20] ?_ (hb := by simp only [E.keepOf, E.get, E.ev, E.cv, E.fill', E.fill, E.slotsOf, Res.sh, AC.sh, AC.sh.shs, AV.sh, E.splice, List.map_cons, List.map_nil, List.cons_append, List.nil_append, List.append_nil, List.length_cons, List.length_nil, List.take_zero, List.drop_zero, List.take_succ_cons, List.drop_succ_cons, List.drop_nil, List.take_nil, List.set_cons_zero, List.set_cons_succ, Nat.zero_add, Nat.add_zero, Nat.reduceAdd, Nat.reduceSub, reduceIte, Nat.reduceEqDiff, E.back, E.backR, E.ix, Res.un, AC.un, AC.un.uns, AV.un, E.un, Option.map_some, Option.map_none, Option.getD_some, List.getElem?_cons_zero, List.getElem?_cons_succ, List.getElem?_nil, crkO, crkR]; rfl) (hR := by (try simp only [E.keepOf, E.get, E.ev, E.cv, E.fill', E.fill, E.slotsOf, Res.sh, AC.sh, AC.sh.shs, AV.sh, E.splice, List.map_cons, List.map_nil, List.cons_append, List.nil_append, List.append_nil, List.length_cons, List.length_nil, List.take_zero, List.drop_zero, List.take_succ_cons, List.drop_succ_cons, List.drop_nil, List.take_nil, List.set_cons_zero, List.set_cons_succ, Nat.zero_add, Nat.add_zero, Nat.reduceAdd, Nat.reduceSub, reduceIte, Nat.reduceEqDiff, E.back, E.backR, E.ix, Res.un, AC.un, AC.un.uns, AV.un, E.un, Option.map_some, Option.map_none, Option.getD_some, List.getElem?_cons_zero, List.getElem?_cons_succ, List.getElem?_nil, crkO, crkR]); rfl)
    refine E_region' (L := [0, 1, 2, 3, 4, 5, 6, 7, 8, 9]) rfl ?_
    refine x_light rfl rfl rfl (L_load rfl (by first | exact d_bp ty_25 | exact ld_rp ty_25 rfl | exact d_ep ty_25)) ?_
    refine x_call rfl rfl rfl rfl rfl ca_16 (c_laws_toCracker c ha0) ?_
    rintro r S ⟨rfl, rfl⟩
    refine x_pure rfl rfl rfl (L_move rfl) ?_
    refine x_call rfl rfl rfl rfl rfl ca_42 (hw) ?_
    rintro r S ⟨rfl, rfl⟩
    refine x_pure rfl rfl rfl (L_move rfl) ?_
    refine x_pure rfl rfl rfl (L_extract rfl rfl) ?_
    refine x_pure rfl rfl rfl (L_extract rfl rfl) ?_
    refine x_alloc rfl rfl rfl rfl za_31 ?_
    refine EOps_go rfl rfl (EOp_store rfl rfl rfl (by first | exact s_bp ty_31 | exact s_ep ty_31) ?_)
    refine x_pure rfl rfl rfl (L_assign rfl) ?_
    refine EOps_nil ?_
    refine E_seq ?_
    refine e_tidy [0, 1, 2, 4, 5, 6, 7, 20] ?_ (hb := by simp only [E.keepOf, E.get, E.ev, E.cv, E.fill', E.fill, E.slotsOf, Res.sh, AC.sh, AC.sh.shs, AV.sh, E.splice, List.map_cons, List.map_nil, List.cons_append, List.nil_append, List.append_nil, List.length_cons, List.length_nil, List.take_zero, List.drop_zero, List.take_succ_cons, List.drop_succ_cons, List.drop_nil, List.take_nil, List.set_cons_zero, List.set_cons_succ, Nat.zero_add, Nat.add_zero, Nat.reduceAdd, Nat.reduceSub, reduceIte, Nat.reduceEqDiff, E.back, E.backR, E.ix, Res.un, AC.un, AC.un.uns, AV.un, E.un, Option.map_some, Option.map_none, Option.getD_some, List.getElem?_cons_zero, List.getElem?_cons_succ, List.getElem?_nil, crkO, crkR]; rfl) (hR := by (try simp only [E.keepOf, E.get, E.ev, E.cv, E.fill', E.fill, E.slotsOf, Res.sh, AC.sh, AC.sh.shs, AV.sh, E.splice, List.map_cons, List.map_nil, List.cons_append, List.nil_append, List.append_nil, List.length_cons, List.length_nil, List.take_zero, List.drop_zero, List.take_succ_cons, List.drop_succ_cons, List.drop_nil, List.take_nil, List.set_cons_zero, List.set_cons_succ, Nat.zero_add, Nat.add_zero, Nat.reduceAdd, Nat.reduceSub, reduceIte, Nat.reduceEqDiff, E.back, E.backR, E.ix, Res.un, AC.un, AC.un.uns, AV.un, E.un, Option.map_some, Option.map_none, Option.getD_some, List.getElem?_cons_zero, List.getElem?_cons_succ, List.getElem?_nil, crkO, crkR]); rfl)
    refine E_region' (L := [0, 1, 2, 3]) rfl ?_
    refine x_light rfl rfl rfl (L_load rfl (by first | exact d_bp ty_25 | exact ld_rp ty_25 rfl | exact d_ep ty_25)) ?_
    refine x_call rfl rfl rfl rfl rfl ca_16 (c_laws_toCracker c ha0) ?_
    rintro r S ⟨rfl, rfl⟩
    refine x_alloc rfl rfl rfl rfl za_31 ?_
    refine EOps_go rfl rfl (EOp_store rfl rfl rfl (by first | exact s_bp ty_31 | exact s_ep ty_31) ?_)
    refine EOps_nil ?_
    refine E_seq ?_
    refine e_tidy [0, 1, 2, 4, 5, 6, 7, 8, 20] ?_ (hb := by simp only [E.keepOf, E.get, E.ev, E.cv, E.fill', E.fill, E.slotsOf, Res.sh, AC.sh, AC.sh.shs, AV.sh, E.splice, List.map_cons, List.map_nil, List.cons_append, List.nil_append, List.append_nil, List.length_cons, List.length_nil, List.take_zero, List.drop_zero, List.take_succ_cons, List.drop_succ_cons, List.drop_nil, List.take_nil, List.set_cons_zero, List.set_cons_succ, Nat.zero_add, Nat.add_zero, Nat.reduceAdd, Nat.reduceSub, reduceIte, Nat.reduceEqDiff, E.back, E.backR, E.ix, Res.un, AC.un, AC.un.uns, AV.un, E.un, Option.map_some, Option.map_none, Option.getD_some, List.getElem?_cons_zero, List.getElem?_cons_succ, List.getElem?_nil, crkO, crkR]; rfl) (hR := by (try simp only [E.keepOf, E.get, E.ev, E.cv, E.fill', E.fill, E.slotsOf, Res.sh, AC.sh, AC.sh.shs, AV.sh, E.splice, List.map_cons, List.map_nil, List.cons_append, List.nil_append, List.append_nil, List.length_cons, List.length_nil, List.take_zero, List.drop_zero, List.take_succ_cons, List.drop_succ_cons, List.drop_nil, List.take_nil, List.set_cons_zero, List.set_cons_succ, Nat.zero_add, Nat.add_zero, Nat.reduceAdd, Nat.reduceSub, reduceIte, Nat.reduceEqDiff, E.back, E.backR, E.ix, Res.un, AC.un, AC.un.uns, AV.un, E.un, Option.map_some, Option.map_none, Option.getD_some, List.getElem?_cons_zero, List.getElem?_cons_succ, List.getElem?_nil, crkO, crkR]); rfl)
    refine E_region' (L := [0, 1, 2, 3, 4, 5, 6, 7, 8]) rfl ?_
    refine x_light rfl rfl rfl (L_load rfl (by first | exact d_bp ty_31 | exact ld_rp ty_31 rfl | exact d_ep ty_31)) ?_
    refine x_pure rfl rfl rfl (L_move rfl) ?_
    refine x_call rfl rfl rfl rfl rfl ca_43 (hg) ?_
    rintro r S ⟨rfl, rfl⟩
    refine x_pure rfl rfl rfl (L_move rfl) ?_
    refine x_pure rfl rfl rfl (L_extract rfl rfl) ?_
    refine x_pure rfl rfl rfl (L_extract rfl rfl) ?_
    refine x_alloc rfl rfl rfl rfl za_31 ?_
    refine EOps_go rfl rfl (EOp_store rfl rfl rfl (by first | exact s_bp ty_31 | exact s_ep ty_31) ?_)
    refine x_pure rfl rfl rfl (L_assign rfl) ?_
    refine EOps_nil ?_
    refine E_seq ?_
    refine E_seq ?_
    refine e_tidy [0, 1, 2, 4, 5, 6, 7, 8, 9, 10, 20] ?_ (hb := by simp only [E.keepOf, E.get, E.ev, E.cv, E.fill', E.fill, E.slotsOf, Res.sh, AC.sh, AC.sh.shs, AV.sh, E.splice, List.map_cons, List.map_nil, List.cons_append, List.nil_append, List.append_nil, List.length_cons, List.length_nil, List.take_zero, List.drop_zero, List.take_succ_cons, List.drop_succ_cons, List.drop_nil, List.take_nil, List.set_cons_zero, List.set_cons_succ, Nat.zero_add, Nat.add_zero, Nat.reduceAdd, Nat.reduceSub, reduceIte, Nat.reduceEqDiff, E.back, E.backR, E.ix, Res.un, AC.un, AC.un.uns, AV.un, E.un, Option.map_some, Option.map_none, Option.getD_some, List.getElem?_cons_zero, List.getElem?_cons_succ, List.getElem?_nil, crkO, crkR]; rfl) (hR := by (try simp only [E.keepOf, E.get, E.ev, E.cv, E.fill', E.fill, E.slotsOf, Res.sh, AC.sh, AC.sh.shs, AV.sh, E.splice, List.map_cons, List.map_nil, List.cons_append, List.nil_append, List.append_nil, List.length_cons, List.length_nil, List.take_zero, List.drop_zero, List.take_succ_cons, List.drop_succ_cons, List.drop_nil, List.take_nil, List.set_cons_zero, List.set_cons_succ, Nat.zero_add, Nat.add_zero, Nat.reduceAdd, Nat.reduceSub, reduceIte, Nat.reduceEqDiff, E.back, E.backR, E.ix, Res.un, AC.un, AC.un.uns, AV.un, E.un, Option.map_some, Option.map_none, Option.getD_some, List.getElem?_cons_zero, List.getElem?_cons_succ, List.getElem?_nil, crkO, crkR]); rfl)
    refine E_region' (L := [0, 1, 2, 3, 4, 5, 6, 7, 8, 9]) rfl ?_
    refine x_light rfl rfl rfl (L_load rfl (by first | exact d_bp ty_31 | exact ld_rp ty_31 rfl | exact d_ep ty_31)) ?_
    refine x_light rfl rfl rfl (L_load rfl (by first | exact d_bp ty_31 | exact ld_rp ty_31 rfl | exact d_ep ty_31)) ?_
    refine x_call rfl rfl rfl rfl rfl ca_19 (c_laws_eqCracker q q) ?_
    rintro r S ⟨rfl, rfl⟩
    refine x_pure rfl rfl rfl (L_not rfl rfl) ?_
    refine x_pure rfl rfl rfl (L_move rfl) ?_
    refine EOps_split 40 (b := _) rfl (fun hg40 => ?_) (fun hg40 => ?_)
    · first | (simp at hg40; done) | (simp at hg40; omega)
    · refine x_pure rfl rfl rfl (L_move rfl) ?_
      refine x_pure rfl rfl rfl (L_move rfl) ?_
      refine x_call rfl rfl rfl rfl rfl ca_33 (c_laws_eqIntS l l) ?_
      rintro r S ⟨rfl, rfl⟩
      refine x_pure rfl rfl rfl (L_not rfl rfl) ?_
      refine x_pure rfl rfl rfl (L_pick rfl rfl) ?_
      refine EOps_nil ?_
      refine E_cond rfl (fun hc45 => ?_) (fun hc45 => ?_)
      · first | (simp at hc45; done) | (simp at hc45; omega)
      · refine E_skip ?_
        refine E_seq ?_
        refine E_seq ?_
        refine e_tidy [0, 1, 2, 4, 5, 6, 7, 8, 9, 10, 20, 45] ?_ (hb := by simp only [E.keepOf, E.get, E.ev, E.cv, E.fill', E.fill, E.slotsOf, Res.sh, AC.sh, AC.sh.shs, AV.sh, E.splice, List.map_cons, List.map_nil, List.cons_append, List.nil_append, List.append_nil, List.length_cons, List.length_nil, List.take_zero, List.drop_zero, List.take_succ_cons, List.drop_succ_cons, List.drop_nil, List.take_nil, List.set_cons_zero, List.set_cons_succ, Nat.zero_add, Nat.add_zero, Nat.reduceAdd, Nat.reduceSub, reduceIte, Nat.reduceEqDiff, E.back, E.backR, E.ix, Res.un, AC.un, AC.un.uns, AV.un, E.un, Option.map_some, Option.map_none, Option.getD_some, List.getElem?_cons_zero, List.getElem?_cons_succ, List.getElem?_nil, crkO, crkR]; rfl) (hR := by (try simp only [E.keepOf, E.get, E.ev, E.cv, E.fill', E.fill, E.slotsOf, Res.sh, AC.sh, AC.sh.shs, AV.sh, E.splice, List.map_cons, List.map_nil, List.cons_append, List.nil_append, List.append_nil, List.length_cons, List.length_nil, List.take_zero, List.drop_zero, List.take_succ_cons, List.drop_succ_cons, List.drop_nil, List.take_nil, List.set_cons_zero, List.set_cons_succ, Nat.zero_add, Nat.add_zero, Nat.reduceAdd, Nat.reduceSub, reduceIte, Nat.reduceEqDiff, E.back, E.backR, E.ix, Res.un, AC.un, AC.un.uns, AV.un, E.un, Option.map_some, Option.map_none, Option.getD_some, List.getElem?_cons_zero, List.getElem?_cons_succ, List.getElem?_nil, crkO, crkR]); rfl)
        refine E_drawT mixed ?_
        refine t_light 0 rfl rfl rfl (L_load rfl (by first | exact d_bp ty_31 | exact ld_rp ty_31 rfl | exact d_ep ty_31)) ?_
        refine t_light 1 rfl rfl rfl (L_load rfl (by first | exact d_bp ty_25 | exact ld_rp ty_25 rfl | exact d_ep ty_25)) ?_
        refine t_call 2 rfl rfl rfl rfl rfl ca_16 (c_laws_toCracker c ha0) ?_
        rintro r S ⟨rfl, rfl⟩
        refine t_call 3 rfl rfl rfl rfl rfl ca_19 (c_laws_eqCracker c c) ?_
        rintro r S ⟨rfl, rfl⟩
        refine t_old 4 rfl rfl rfl (L_not rfl rfl) ?_
        refine T_done (by kernel_rfl) ?_
        refine E_cond rfl (fun hc50 => ?_) (fun hc50 => ?_)
        · first | (simp at hc50; done) | (simp at hc50; omega)
        · refine E_skip ?_
          refine E_seq ?_
          refine E_region' (L := [0]) rfl ?_
          refine x_pure rfl rfl rfl (L_assign rfl) ?_
          refine EOps_nil ?_
          refine E_seq ?_
          refine e_tidy [0, 1, 2, 4, 5, 6, 7, 8, 9, 10, 11, 20, 45, 50] ?_ (hb := by simp only [E.keepOf, E.get, E.ev, E.cv, E.fill', E.fill, E.slotsOf, Res.sh, AC.sh, AC.sh.shs, AV.sh, E.splice, List.map_cons, List.map_nil, List.cons_append, List.nil_append, List.append_nil, List.length_cons, List.length_nil, List.take_zero, List.drop_zero, List.take_succ_cons, List.drop_succ_cons, List.drop_nil, List.take_nil, List.set_cons_zero, List.set_cons_succ, Nat.zero_add, Nat.add_zero, Nat.reduceAdd, Nat.reduceSub, reduceIte, Nat.reduceEqDiff, E.back, E.backR, E.ix, Res.un, AC.un, AC.un.uns, AV.un, E.un, Option.map_some, Option.map_none, Option.getD_some, List.getElem?_cons_zero, List.getElem?_cons_succ, List.getElem?_nil, crkO, crkR]; rfl) (hR := by (try simp only [E.keepOf, E.get, E.ev, E.cv, E.fill', E.fill, E.slotsOf, Res.sh, AC.sh, AC.sh.shs, AV.sh, E.splice, List.map_cons, List.map_nil, List.cons_append, List.nil_append, List.append_nil, List.length_cons, List.length_nil, List.take_zero, List.drop_zero, List.take_succ_cons, List.drop_succ_cons, List.drop_nil, List.take_nil, List.set_cons_zero, List.set_cons_succ, Nat.zero_add, Nat.add_zero, Nat.reduceAdd, Nat.reduceSub, reduceIte, Nat.reduceEqDiff, E.back, E.backR, E.ix, Res.un, AC.un, AC.un.uns, AV.un, E.un, Option.map_some, Option.map_none, Option.getD_some, List.getElem?_cons_zero, List.getElem?_cons_succ, List.getElem?_nil, crkO, crkR]); rfl)
          refine E_region' (L := [0, 1, 2, 3]) rfl ?_
          refine x_light rfl rfl rfl (L_load rfl (by first | exact d_bp ty_31 | exact ld_rp ty_31 rfl | exact d_ep ty_31)) ?_
          refine x_pure rfl rfl rfl (L_move rfl) ?_
          refine x_frame [9, 10, 11] rfl rfl rfl rfl rfl ca_21 rfl (c_laws_markCracker _ _ _ (1) c _ _ _ rfl rfl rfl ha0 (by omega)) ?_
          rintro r S ⟨r0, S0, ⟨rfl, rfl⟩, rfl, rfl⟩
          refine x_pure rfl rfl rfl (L_assign rfl) ?_
          refine EOps_nil ?_
          refine E_seq ?_
          refine E_seq ?_
          refine e_tidy [0, 1, 2, 4, 5, 6, 7, 8, 9, 10, 11, 20, 45, 50] ?_ (hb := by simp only [E.keepOf, E.get, E.ev, E.cv, E.fill', E.fill, E.slotsOf, Res.sh, AC.sh, AC.sh.shs, AV.sh, E.splice, List.map_cons, List.map_nil, List.cons_append, List.nil_append, List.append_nil, List.length_cons, List.length_nil, List.take_zero, List.drop_zero, List.take_succ_cons, List.drop_succ_cons, List.drop_nil, List.take_nil, List.set_cons_zero, List.set_cons_succ, Nat.zero_add, Nat.add_zero, Nat.reduceAdd, Nat.reduceSub, reduceIte, Nat.reduceEqDiff, E.back, E.backR, E.ix, Res.un, AC.un, AC.un.uns, AV.un, E.un, Option.map_some, Option.map_none, Option.getD_some, List.getElem?_cons_zero, List.getElem?_cons_succ, List.getElem?_nil, crkO, crkR]; rfl) (hR := by (try simp only [E.keepOf, E.get, E.ev, E.cv, E.fill', E.fill, E.slotsOf, Res.sh, AC.sh, AC.sh.shs, AV.sh, E.splice, List.map_cons, List.map_nil, List.cons_append, List.nil_append, List.append_nil, List.length_cons, List.length_nil, List.take_zero, List.drop_zero, List.take_succ_cons, List.drop_succ_cons, List.drop_nil, List.take_nil, List.set_cons_zero, List.set_cons_succ, Nat.zero_add, Nat.add_zero, Nat.reduceAdd, Nat.reduceSub, reduceIte, Nat.reduceEqDiff, E.back, E.backR, E.ix, Res.un, AC.un, AC.un.uns, AV.un, E.un, Option.map_some, Option.map_none, Option.getD_some, List.getElem?_cons_zero, List.getElem?_cons_succ, List.getElem?_nil, crkO, crkR]); rfl)
          refine E_region' (L := [0, 1, 2, 3, 4, 5, 6, 7, 8, 9, 10, 11, 12, 13]) rfl ?_
          refine x_pure rfl rfl rfl (L_move rfl) ?_
          refine x_pure rfl rfl rfl (L_bin rfl rfl rfl rfl) ?_
          refine x_pure rfl rfl rfl (L_move rfl) ?_
          refine EOps_split 56 (b := _) rfl (fun hg56 => ?_) (fun hg56 => ?_)
          · first | (simp at hg56; done) | (simp at hg56; omega)
          · refine x_light rfl rfl rfl (L_load rfl (by first | exact d_bp ty_31 | exact ld_rp ty_31 rfl | exact d_ep ty_31)) ?_
            refine x_light rfl rfl rfl (L_load rfl (by first | exact d_bp ty_31 | exact ld_rp ty_31 rfl | exact d_ep ty_31)) ?_
            refine x_call rfl rfl rfl rfl rfl ca_19 (c_laws_eqCracker q q) ?_
            rintro r S ⟨rfl, rfl⟩
            refine x_pure rfl rfl rfl (L_not rfl rfl) ?_
            refine x_pure rfl rfl rfl (L_pick rfl rfl) ?_
            refine x_pure rfl rfl rfl (L_move rfl) ?_
            refine EOps_split 62 (b := _) rfl (fun hg62 => ?_) (fun hg62 => ?_)
            · first | (simp at hg62; done) | (simp at hg62; omega)
            · refine x_pure rfl rfl rfl (L_move rfl) ?_
              refine x_pure rfl rfl rfl (L_move rfl) ?_
              refine x_call rfl rfl rfl rfl rfl ca_33 (c_laws_eqIntS l l) ?_
              rintro r S ⟨rfl, rfl⟩
              refine x_pure rfl rfl rfl (L_not rfl rfl) ?_
              refine x_pure rfl rfl rfl (L_pick rfl rfl) ?_
              refine EOps_nil ?_
              refine E_cond rfl (fun hc67 => ?_) (fun hc67 => ?_)
              · first | (simp at hc67; done) | (simp at hc67; omega)
              · refine E_skip ?_
                refine E_seq ?_
                refine E_region' (L := [0]) rfl ?_
                refine x_pure rfl rfl rfl (L_assign rfl) ?_
                refine EOps_nil ?_
                refine E_seq ?_
                refine e_tidy [0, 1, 2, 4, 5, 6, 7, 8, 9, 10, 11, 12, 20, 45, 50, 67] ?_ (hb := by simp only [E.keepOf, E.get, E.ev, E.cv, E.fill', E.fill, E.slotsOf, Res.sh, AC.sh, AC.sh.shs, AV.sh, E.splice, List.map_cons, List.map_nil, List.cons_append, List.nil_append, List.append_nil, List.length_cons, List.length_nil, List.take_zero, List.drop_zero, List.take_succ_cons, List.drop_succ_cons, List.drop_nil, List.take_nil, List.set_cons_zero, List.set_cons_succ, Nat.zero_add, Nat.add_zero, Nat.reduceAdd, Nat.reduceSub, reduceIte, Nat.reduceEqDiff, E.back, E.backR, E.ix, Res.un, AC.un, AC.un.uns, AV.un, E.un, Option.map_some, Option.map_none, Option.getD_some, List.getElem?_cons_zero, List.getElem?_cons_succ, List.getElem?_nil, crkO, crkR]; rfl) (hR := by (try simp only [E.keepOf, E.get, E.ev, E.cv, E.fill', E.fill, E.slotsOf, Res.sh, AC.sh, AC.sh.shs, AV.sh, E.splice, List.map_cons, List.map_nil, List.cons_append, List.nil_append, List.append_nil, List.length_cons, List.length_nil, List.take_zero, List.drop_zero, List.take_succ_cons, List.drop_succ_cons, List.drop_nil, List.take_nil, List.set_cons_zero, List.set_cons_succ, Nat.zero_add, Nat.add_zero, Nat.reduceAdd, Nat.reduceSub, reduceIte, Nat.reduceEqDiff, E.back, E.backR, E.ix, Res.un, AC.un, AC.un.uns, AV.un, E.un, Option.map_some, Option.map_none, Option.getD_some, List.getElem?_cons_zero, List.getElem?_cons_succ, List.getElem?_nil, crkO, crkR]); rfl)
                refine E_region' (L := [0, 1, 2, 3]) rfl ?_
                refine x_light rfl rfl rfl (L_load rfl (by first | exact d_bp ty_31 | exact ld_rp ty_31 rfl | exact d_ep ty_31)) ?_
                refine x_pure rfl rfl rfl (L_move rfl) ?_
                refine x_frame [13, 14, 15] rfl rfl rfl rfl rfl ca_21 rfl (c_laws_markCracker _ _ _ (1) q _ _ _ rfl rfl rfl hle0 (by omega)) ?_
                rintro r S ⟨r0, S0, ⟨rfl, rfl⟩, rfl, rfl⟩
                refine x_pure rfl rfl rfl (L_assign rfl) ?_
                refine EOps_nil ?_
                refine E_seq ?_
                refine e_tidy [0, 1, 2, 4, 5, 6, 7, 8, 9, 10, 11, 12, 20, 45, 50, 67] ?_ (hb := by simp only [E.keepOf, E.get, E.ev, E.cv, E.fill', E.fill, E.slotsOf, Res.sh, AC.sh, AC.sh.shs, AV.sh, E.splice, List.map_cons, List.map_nil, List.cons_append, List.nil_append, List.append_nil, List.length_cons, List.length_nil, List.take_zero, List.drop_zero, List.take_succ_cons, List.drop_succ_cons, List.drop_nil, List.take_nil, List.set_cons_zero, List.set_cons_succ, Nat.zero_add, Nat.add_zero, Nat.reduceAdd, Nat.reduceSub, reduceIte, Nat.reduceEqDiff, E.back, E.backR, E.ix, Res.un, AC.un, AC.un.uns, AV.un, E.un, Option.map_some, Option.map_none, Option.getD_some, List.getElem?_cons_zero, List.getElem?_cons_succ, List.getElem?_nil, crkO, crkR]; rfl) (hR := by (try simp only [E.keepOf, E.get, E.ev, E.cv, E.fill', E.fill, E.slotsOf, Res.sh, AC.sh, AC.sh.shs, AV.sh, E.splice, List.map_cons, List.map_nil, List.cons_append, List.nil_append, List.append_nil, List.length_cons, List.length_nil, List.take_zero, List.drop_zero, List.take_succ_cons, List.drop_succ_cons, List.drop_nil, List.take_nil, List.set_cons_zero, List.set_cons_succ, Nat.zero_add, Nat.add_zero, Nat.reduceAdd, Nat.reduceSub, reduceIte, Nat.reduceEqDiff, E.back, E.backR, E.ix, Res.un, AC.un, AC.un.uns, AV.un, E.un, Option.map_some, Option.map_none, Option.getD_some, List.getElem?_cons_zero, List.getElem?_cons_succ, List.getElem?_nil, crkO, crkR]); rfl)
                refine E_region' (L := [0, 1, 2, 3]) rfl ?_
                refine x_pure rfl rfl rfl (L_move rfl) ?_
                refine x_pure rfl rfl rfl (L_move rfl) ?_
                refine x_frame [16] rfl rfl rfl rfl rfl ca_34 rfl (c_laws_markIntS _ (l.length) (1 + q.vals.length + q.rows.length + 2 * q.piv.length) l rfl hle1 (by omega)) ?_
                rintro r S ⟨r0, S0, ⟨rfl, rfl⟩, rfl, rfl⟩
                refine x_pure rfl rfl rfl (L_assign rfl) ?_
                refine EOps_nil ?_
                refine E_seq ?_
                refine E_region' (L := [0]) rfl ?_
                refine x_pure rfl rfl rfl (L_assign rfl) ?_
                refine EOps_nil ?_
                refine E_seq ?_
                refine e_tidy [0, 1, 2, 4, 5, 6, 7, 8, 9, 10, 11, 12, 13, 20, 45, 50, 67] ?_ (hb := by simp only [E.keepOf, E.get, E.ev, E.cv, E.fill', E.fill, E.slotsOf, Res.sh, AC.sh, AC.sh.shs, AV.sh, E.splice, List.map_cons, List.map_nil, List.cons_append, List.nil_append, List.append_nil, List.length_cons, List.length_nil, List.take_zero, List.drop_zero, List.take_succ_cons, List.drop_succ_cons, List.drop_nil, List.take_nil, List.set_cons_zero, List.set_cons_succ, Nat.zero_add, Nat.add_zero, Nat.reduceAdd, Nat.reduceSub, reduceIte, Nat.reduceEqDiff, E.back, E.backR, E.ix, Res.un, AC.un, AC.un.uns, AV.un, E.un, Option.map_some, Option.map_none, Option.getD_some, List.getElem?_cons_zero, List.getElem?_cons_succ, List.getElem?_nil, crkO, crkR]; rfl) (hR := by (try simp only [E.keepOf, E.get, E.ev, E.cv, E.fill', E.fill, E.slotsOf, Res.sh, AC.sh, AC.sh.shs, AV.sh, E.splice, List.map_cons, List.map_nil, List.cons_append, List.nil_append, List.append_nil, List.length_cons, List.length_nil, List.take_zero, List.drop_zero, List.take_succ_cons, List.drop_succ_cons, List.drop_nil, List.take_nil, List.set_cons_zero, List.set_cons_succ, Nat.zero_add, Nat.add_zero, Nat.reduceAdd, Nat.reduceSub, reduceIte, Nat.reduceEqDiff, E.back, E.backR, E.ix, Res.un, AC.un, AC.un.uns, AV.un, E.un, Option.map_some, Option.map_none, Option.getD_some, List.getElem?_cons_zero, List.getElem?_cons_succ, List.getElem?_nil, crkO, crkR]); rfl)
                refine E_region' (L := [0, 1, 2, 3]) rfl ?_
                refine x_light rfl rfl rfl (L_load rfl (by first | exact d_bp ty_31 | exact ld_rp ty_31 rfl | exact d_ep ty_31)) ?_
                refine x_pure rfl rfl rfl (L_move rfl) ?_
                refine x_call rfl rfl rfl rfl rfl ca_22 (c_laws_heldCracker (1) (q.vals.length) (q.rows.length) (q.piv.length) hle0 (by omega)) ?_ (ha := by exact cons_eq (agg_eq (cons_eq (lendC_whole rfl (by simp [ints_len, seqF_len])) (cons_eq (lendC_whole rfl (by simp [ints_len, seqF_len])) (cons_eq (lendC_whole rfl (by simp [pairs_len, seqP_len])) rfl)))) (cons_eq rfl rfl))
                rintro r S ⟨rfl, rfl⟩
                refine x_pure rfl rfl rfl (L_assign rfl) ?_
                refine EOps_nil ?_
                refine E_seq ?_
                refine E_seq ?_
                refine E_region' (L := [0, 1]) rfl ?_
                refine x_pure rfl rfl rfl (L_move rfl) ?_
                refine x_pure rfl rfl rfl (L_bin rfl rfl rfl rfl) ?_
                refine EOps_nil ?_
                refine E_cond rfl (fun hc78 => ?_) (fun hc78 => ?_)
                · first | (simp at hc78; done) | (simp at hc78; omega)
                · refine E_skip ?_
                  refine E_seq ?_
                  refine e_tidy [0, 1, 2, 4, 5, 6, 7, 8, 9, 10, 11, 12, 13, 20, 45, 50, 67, 78] ?_ (hb := by simp only [E.keepOf, E.get, E.ev, E.cv, E.fill', E.fill, E.slotsOf, Res.sh, AC.sh, AC.sh.shs, AV.sh, E.splice, List.map_cons, List.map_nil, List.cons_append, List.nil_append, List.append_nil, List.length_cons, List.length_nil, List.take_zero, List.drop_zero, List.take_succ_cons, List.drop_succ_cons, List.drop_nil, List.take_nil, List.set_cons_zero, List.set_cons_succ, Nat.zero_add, Nat.add_zero, Nat.reduceAdd, Nat.reduceSub, reduceIte, Nat.reduceEqDiff, E.back, E.backR, E.ix, Res.un, AC.un, AC.un.uns, AV.un, E.un, Option.map_some, Option.map_none, Option.getD_some, List.getElem?_cons_zero, List.getElem?_cons_succ, List.getElem?_nil, crkO, crkR]; rfl) (hR := by (try simp only [E.keepOf, E.get, E.ev, E.cv, E.fill', E.fill, E.slotsOf, Res.sh, AC.sh, AC.sh.shs, AV.sh, E.splice, List.map_cons, List.map_nil, List.cons_append, List.nil_append, List.append_nil, List.length_cons, List.length_nil, List.take_zero, List.drop_zero, List.take_succ_cons, List.drop_succ_cons, List.drop_nil, List.take_nil, List.set_cons_zero, List.set_cons_succ, Nat.zero_add, Nat.add_zero, Nat.reduceAdd, Nat.reduceSub, reduceIte, Nat.reduceEqDiff, E.back, E.backR, E.ix, Res.un, AC.un, AC.un.uns, AV.un, E.un, Option.map_some, Option.map_none, Option.getD_some, List.getElem?_cons_zero, List.getElem?_cons_succ, List.getElem?_nil, crkO, crkR]); rfl)
                  refine E_region' (L := [0, 1, 2, 3]) rfl ?_
                  refine x_pure rfl rfl rfl (L_move rfl) ?_
                  refine x_pure rfl rfl rfl (L_move rfl) ?_
                  refine x_call rfl rfl rfl rfl rfl ca_39 (c_laws_heldIntS (l.length) (1 + q.vals.length + q.rows.length + 2 * q.piv.length) hle1 (by omega)) ?_ (ha := by exact cons_eq (lend_whole rfl (by simp [ints_len, seqF_len])) (cons_eq rfl rfl))
                  rintro r S ⟨rfl, rfl⟩
                  refine x_pure rfl rfl rfl (L_assign rfl) ?_
                  refine EOps_nil ?_
                  refine E_seq ?_
                  refine E_seq ?_
                  refine E_region' (L := [0, 1]) rfl ?_
                  refine x_pure rfl rfl rfl (L_move rfl) ?_
                  refine x_pure rfl rfl rfl (L_bin rfl rfl rfl rfl) ?_
                  refine EOps_nil ?_
                  refine E_cond rfl (fun hc83 => ?_) (fun hc83 => ?_)
                  · first | (simp at hc83; done) | (simp at hc83; omega)
                  · refine E_skip ?_
                    refine E_seq ?_
                    refine E_seq ?_
                    refine E_region' (L := [0, 1, 2]) rfl ?_
                    refine x_pure rfl rfl rfl (L_move rfl) ?_
                    refine x_pure rfl rfl rfl (L_move rfl) ?_
                    refine x_pure rfl rfl rfl (L_bin rfl rfl rfl rfl) ?_
                    refine EOps_nil ?_
                    refine E_cond rfl (fun hc86 => ?_) (fun hc86 => ?_)
                    · first | (simp at hc86; done) | (simp at hc86; omega)
                    · refine E_skip ?_
                      refine E_seq ?_
                      refine e_tidy [0, 1, 2, 4, 5, 6, 7, 8, 9, 10, 11, 12, 13, 20, 45, 50, 67, 78, 83, 86] ?_ (hb := by simp only [E.keepOf, E.get, E.ev, E.cv, E.fill', E.fill, E.slotsOf, Res.sh, AC.sh, AC.sh.shs, AV.sh, E.splice, List.map_cons, List.map_nil, List.cons_append, List.nil_append, List.append_nil, List.length_cons, List.length_nil, List.take_zero, List.drop_zero, List.take_succ_cons, List.drop_succ_cons, List.drop_nil, List.take_nil, List.set_cons_zero, List.set_cons_succ, Nat.zero_add, Nat.add_zero, Nat.reduceAdd, Nat.reduceSub, reduceIte, Nat.reduceEqDiff, E.back, E.backR, E.ix, Res.un, AC.un, AC.un.uns, AV.un, E.un, Option.map_some, Option.map_none, Option.getD_some, List.getElem?_cons_zero, List.getElem?_cons_succ, List.getElem?_nil, crkO, crkR]; rfl) (hR := by (try simp only [E.keepOf, E.get, E.ev, E.cv, E.fill', E.fill, E.slotsOf, Res.sh, AC.sh, AC.sh.shs, AV.sh, E.splice, List.map_cons, List.map_nil, List.cons_append, List.nil_append, List.append_nil, List.length_cons, List.length_nil, List.take_zero, List.drop_zero, List.take_succ_cons, List.drop_succ_cons, List.drop_nil, List.take_nil, List.set_cons_zero, List.set_cons_succ, Nat.zero_add, Nat.add_zero, Nat.reduceAdd, Nat.reduceSub, reduceIte, Nat.reduceEqDiff, E.back, E.backR, E.ix, Res.un, AC.un, AC.un.uns, AV.un, E.un, Option.map_some, Option.map_none, Option.getD_some, List.getElem?_cons_zero, List.getElem?_cons_succ, List.getElem?_nil, crkO, crkR]); rfl)
                      refine E_region' (L := [0, 1, 2, 3, 4, 5, 6, 7, 8, 9]) rfl ?_
                      refine x_light rfl rfl rfl (L_load rfl (by first | exact d_bp ty_25 | exact ld_rp ty_25 rfl | exact d_ep ty_25)) ?_
                      refine x_call rfl rfl rfl rfl rfl ca_16 (c_laws_toCracker c ha0) ?_
                      rintro r S ⟨rfl, rfl⟩
                      refine x_pure rfl rfl rfl (L_move rfl) ?_
                      refine x_call rfl rfl rfl rfl rfl ca_43 (hg) ?_
                      rintro r S ⟨rfl, rfl⟩
                      refine x_pure rfl rfl rfl (L_move rfl) ?_
                      refine x_pure rfl rfl rfl (L_extract rfl rfl) ?_
                      refine x_pure rfl rfl rfl (L_extract rfl rfl) ?_
                      refine x_alloc rfl rfl rfl rfl za_31 ?_
                      refine EOps_go rfl rfl (EOp_store rfl rfl rfl (by first | exact s_bp ty_31 | exact s_ep ty_31) ?_)
                      refine x_pure rfl rfl rfl (L_assign rfl) ?_
                      refine EOps_nil ?_
                      refine E_seq ?_
                      refine E_seq ?_
                      refine e_tidy [0, 1, 2, 4, 5, 6, 7, 8, 9, 10, 11, 12, 13, 14, 15, 20, 45, 50, 67, 78, 83, 86] ?_ (hb := by simp only [E.keepOf, E.get, E.ev, E.cv, E.fill', E.fill, E.slotsOf, Res.sh, AC.sh, AC.sh.shs, AV.sh, E.splice, List.map_cons, List.map_nil, List.cons_append, List.nil_append, List.append_nil, List.length_cons, List.length_nil, List.take_zero, List.drop_zero, List.take_succ_cons, List.drop_succ_cons, List.drop_nil, List.take_nil, List.set_cons_zero, List.set_cons_succ, Nat.zero_add, Nat.add_zero, Nat.reduceAdd, Nat.reduceSub, reduceIte, Nat.reduceEqDiff, E.back, E.backR, E.ix, Res.un, AC.un, AC.un.uns, AV.un, E.un, Option.map_some, Option.map_none, Option.getD_some, List.getElem?_cons_zero, List.getElem?_cons_succ, List.getElem?_nil, crkO, crkR]; rfl) (hR := by (try simp only [E.keepOf, E.get, E.ev, E.cv, E.fill', E.fill, E.slotsOf, Res.sh, AC.sh, AC.sh.shs, AV.sh, E.splice, List.map_cons, List.map_nil, List.cons_append, List.nil_append, List.append_nil, List.length_cons, List.length_nil, List.take_zero, List.drop_zero, List.take_succ_cons, List.drop_succ_cons, List.drop_nil, List.take_nil, List.set_cons_zero, List.set_cons_succ, Nat.zero_add, Nat.add_zero, Nat.reduceAdd, Nat.reduceSub, reduceIte, Nat.reduceEqDiff, E.back, E.backR, E.ix, Res.un, AC.un, AC.un.uns, AV.un, E.un, Option.map_some, Option.map_none, Option.getD_some, List.getElem?_cons_zero, List.getElem?_cons_succ, List.getElem?_nil, crkO, crkR]); rfl)
                      refine E_region' (L := [0, 1, 2, 3, 4, 5, 6, 7, 8, 9]) rfl ?_
                      refine x_light rfl rfl rfl (L_load rfl (by first | exact d_bp ty_31 | exact ld_rp ty_31 rfl | exact d_ep ty_31)) ?_
                      refine x_light rfl rfl rfl (L_load rfl (by first | exact d_bp ty_31 | exact ld_rp ty_31 rfl | exact d_ep ty_31)) ?_
                      refine x_call rfl rfl rfl rfl rfl ca_19 (c_laws_eqCracker q q) ?_
                      rintro r S ⟨rfl, rfl⟩
                      refine x_pure rfl rfl rfl (L_not rfl rfl) ?_
                      refine x_pure rfl rfl rfl (L_move rfl) ?_
                      refine EOps_split 98 (b := _) rfl (fun hg98 => ?_) (fun hg98 => ?_)
                      · first | (simp at hg98; done) | (simp at hg98; omega)
                      · refine x_pure rfl rfl rfl (L_move rfl) ?_
                        refine x_pure rfl rfl rfl (L_move rfl) ?_
                        refine x_call rfl rfl rfl rfl rfl ca_33 (c_laws_eqIntS l l) ?_
                        rintro r S ⟨rfl, rfl⟩
                        refine x_pure rfl rfl rfl (L_not rfl rfl) ?_
                        refine x_pure rfl rfl rfl (L_pick rfl rfl) ?_
                        refine EOps_nil ?_
                        refine E_cond rfl (fun hc103 => ?_) (fun hc103 => ?_)
                        · first | (simp at hc103; done) | (simp at hc103; omega)
                        · refine E_skip ?_
                          refine E_seq ?_
                          refine E_region' (L := [0]) rfl ?_
                          refine x_pure rfl rfl rfl (L_assign rfl) ?_
                          refine EOps_nil ?_
                          refine E_seq ?_
                          refine e_tidy [0, 1, 2, 4, 5, 6, 7, 8, 9, 10, 11, 12, 13, 14, 15, 20, 45, 50, 67, 78, 83, 86, 103] ?_ (hb := by simp only [E.keepOf, E.get, E.ev, E.cv, E.fill', E.fill, E.slotsOf, Res.sh, AC.sh, AC.sh.shs, AV.sh, E.splice, List.map_cons, List.map_nil, List.cons_append, List.nil_append, List.append_nil, List.length_cons, List.length_nil, List.take_zero, List.drop_zero, List.take_succ_cons, List.drop_succ_cons, List.drop_nil, List.take_nil, List.set_cons_zero, List.set_cons_succ, Nat.zero_add, Nat.add_zero, Nat.reduceAdd, Nat.reduceSub, reduceIte, Nat.reduceEqDiff, E.back, E.backR, E.ix, Res.un, AC.un, AC.un.uns, AV.un, E.un, Option.map_some, Option.map_none, Option.getD_some, List.getElem?_cons_zero, List.getElem?_cons_succ, List.getElem?_nil, crkO, crkR]; rfl) (hR := by (try simp only [E.keepOf, E.get, E.ev, E.cv, E.fill', E.fill, E.slotsOf, Res.sh, AC.sh, AC.sh.shs, AV.sh, E.splice, List.map_cons, List.map_nil, List.cons_append, List.nil_append, List.append_nil, List.length_cons, List.length_nil, List.take_zero, List.drop_zero, List.take_succ_cons, List.drop_succ_cons, List.drop_nil, List.take_nil, List.set_cons_zero, List.set_cons_succ, Nat.zero_add, Nat.add_zero, Nat.reduceAdd, Nat.reduceSub, reduceIte, Nat.reduceEqDiff, E.back, E.backR, E.ix, Res.un, AC.un, AC.un.uns, AV.un, E.un, Option.map_some, Option.map_none, Option.getD_some, List.getElem?_cons_zero, List.getElem?_cons_succ, List.getElem?_nil, crkO, crkR]); rfl)
                          refine E_region' (L := [0, 1, 2, 3]) rfl ?_
                          refine x_light rfl rfl rfl (L_load rfl (by first | exact d_bp ty_31 | exact ld_rp ty_31 rfl | exact d_ep ty_31)) ?_
                          refine x_pure rfl rfl rfl (L_move rfl) ?_
                          refine x_call rfl rfl rfl rfl rfl ca_22 (c_laws_heldCracker (1) (q.vals.length) (q.rows.length) (q.piv.length) hle0 (by omega)) ?_ (ha := by exact cons_eq (agg_eq (cons_eq (lendC_whole rfl (by simp [ints_len, seqF_len])) (cons_eq (lendC_whole rfl (by simp [ints_len, seqF_len])) (cons_eq (lendC_whole rfl (by simp [pairs_len, seqP_len])) rfl)))) (cons_eq rfl rfl))
                          rintro r S ⟨rfl, rfl⟩
                          refine x_pure rfl rfl rfl (L_assign rfl) ?_
                          refine EOps_nil ?_
                          refine E_seq ?_
                          refine E_seq ?_
                          refine E_region' (L := [0, 1]) rfl ?_
                          refine x_pure rfl rfl rfl (L_move rfl) ?_
                          refine x_pure rfl rfl rfl (L_bin rfl rfl rfl rfl) ?_
                          refine EOps_nil ?_
                          refine E_cond rfl (fun hc108 => ?_) (fun hc108 => ?_)
                          · first | (simp at hc108; done) | (simp at hc108; omega)
                          · refine E_skip ?_
                            refine E_seq ?_
                            refine e_tidy [0, 1, 2, 4, 5, 6, 7, 8, 9, 10, 11, 12, 13, 14, 15, 20, 45, 50, 67, 78, 83, 86, 103, 108] ?_ (hb := by simp only [E.keepOf, E.get, E.ev, E.cv, E.fill', E.fill, E.slotsOf, Res.sh, AC.sh, AC.sh.shs, AV.sh, E.splice, List.map_cons, List.map_nil, List.cons_append, List.nil_append, List.append_nil, List.length_cons, List.length_nil, List.take_zero, List.drop_zero, List.take_succ_cons, List.drop_succ_cons, List.drop_nil, List.take_nil, List.set_cons_zero, List.set_cons_succ, Nat.zero_add, Nat.add_zero, Nat.reduceAdd, Nat.reduceSub, reduceIte, Nat.reduceEqDiff, E.back, E.backR, E.ix, Res.un, AC.un, AC.un.uns, AV.un, E.un, Option.map_some, Option.map_none, Option.getD_some, List.getElem?_cons_zero, List.getElem?_cons_succ, List.getElem?_nil, crkO, crkR]; rfl) (hR := by (try simp only [E.keepOf, E.get, E.ev, E.cv, E.fill', E.fill, E.slotsOf, Res.sh, AC.sh, AC.sh.shs, AV.sh, E.splice, List.map_cons, List.map_nil, List.cons_append, List.nil_append, List.append_nil, List.length_cons, List.length_nil, List.take_zero, List.drop_zero, List.take_succ_cons, List.drop_succ_cons, List.drop_nil, List.take_nil, List.set_cons_zero, List.set_cons_succ, Nat.zero_add, Nat.add_zero, Nat.reduceAdd, Nat.reduceSub, reduceIte, Nat.reduceEqDiff, E.back, E.backR, E.ix, Res.un, AC.un, AC.un.uns, AV.un, E.un, Option.map_some, Option.map_none, Option.getD_some, List.getElem?_cons_zero, List.getElem?_cons_succ, List.getElem?_nil, crkO, crkR]); rfl)
                            refine E_region' (L := [0, 1, 2, 3]) rfl ?_
                            refine x_pure rfl rfl rfl (L_move rfl) ?_
                            refine x_pure rfl rfl rfl (L_move rfl) ?_
                            refine x_call rfl rfl rfl rfl rfl ca_39 (c_laws_heldIntS (l.length) (1 + q.vals.length + q.rows.length + 2 * q.piv.length) hle1 (by omega)) ?_ (ha := by exact cons_eq (lend_whole rfl (by simp [ints_len, seqF_len])) (cons_eq rfl rfl))
                            rintro r S ⟨rfl, rfl⟩
                            refine x_pure rfl rfl rfl (L_assign rfl) ?_
                            refine EOps_nil ?_
                            refine E_seq ?_
                            refine E_seq ?_
                            refine E_region' (L := [0, 1]) rfl ?_
                            refine x_pure rfl rfl rfl (L_move rfl) ?_
                            refine x_pure rfl rfl rfl (L_bin rfl rfl rfl rfl) ?_
                            refine EOps_nil ?_
                            refine E_cond rfl (fun hc113 => ?_) (fun hc113 => ?_)
                            · first | (simp at hc113; done) | (simp at hc113; omega)
                            · refine E_skip ?_
                              refine E_seq ?_
                              refine E_seq ?_
                              refine E_region' (L := [0, 1, 2]) rfl ?_
                              refine x_pure rfl rfl rfl (L_move rfl) ?_
                              refine x_pure rfl rfl rfl (L_move rfl) ?_
                              refine x_pure rfl rfl rfl (L_bin rfl rfl rfl rfl) ?_
                              refine EOps_nil ?_
                              refine E_cond rfl (fun hc116 => ?_) (fun hc116 => ?_)
                              · first | (simp at hc116; done) | (simp at hc116; omega)
                              · refine E_skip ?_
                                refine E_seq ?_
                                refine E_region' (L := [0]) rfl ?_
                                refine x_pure rfl rfl rfl (L_assign rfl) ?_
                                refine EOps_nil ?_
                                refine E_ret ?_
                                refine ⟨_, [], rfl, rfl, ?_, rfl⟩
                                simp [AV.ren, ren_sc, ren_ro, AC.ren, AC.ren.rens, ix, rv1, E.get, E.ev, E.cv, E.fill', E.fill, E.slotsOf, *]

end Go.Proofs.Ytmajgcalliojlaa.E
