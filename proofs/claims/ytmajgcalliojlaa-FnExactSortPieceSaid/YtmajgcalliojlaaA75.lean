/- Walks through functions, by program out of the session's annotations. -/
import Derived.Test.YtmajgcalliojlaaA71
import Derived.Test.YtmajgcalliojlaaA09
import Derived.Test.YtmajgcalliojlaaF3
namespace Go.Proofs.Ytmajgcalliojlaa.E
open Go Go.RowKit Go.Proofs
set_option linter.unusedVariables false
set_option linter.unusedSimpArgs false

set_option maxRecDepth 20000 in
set_option maxHeartbeats 4000000 in
theorem c_laws_FnExactSortPiece (c : Crk) (v : Int) : EFn Try.prog 10 [.agg (crkC c), .c (.sc (.int .i64 v))] [] (fun r S => r = .c (.sc (.bool true)) ∧ S = []) := by
  refine E_fn Try.func10 rfl (Nat.le_of_ble_eq_true rfl) ?_
  refine E_seq ?_
  refine E_region' (L := [0, 1]) rfl ?_
  refine x_box rfl rfl rfl rfl rfl ?_
  refine x_pure rfl rfl rfl (L_assign rfl) ?_
  refine EOps_nil ?_
  refine E_seq ?_
  refine E_region' (L := [0]) rfl ?_
  refine x_pure rfl rfl rfl (L_assign rfl) ?_
  refine EOps_nil ?_
  refine E_seq ?_
  refine e_tidy [0, 1, 2, 4, 5] ?_ (hb := by simp only [E.keepOf, E.get, E.ev, E.cv, E.fill', E.fill, E.slotsOf, Res.sh, AC.sh, AC.sh.shs, AV.sh, E.splice, List.map_cons, List.map_nil, List.cons_append, List.nil_append, List.append_nil, List.length_cons, List.length_nil, List.take_zero, List.drop_zero, List.take_succ_cons, List.drop_succ_cons, List.drop_nil, List.take_nil, List.set_cons_zero, List.set_cons_succ, Nat.zero_add, Nat.add_zero, Nat.reduceAdd, Nat.reduceSub, reduceIte, Nat.reduceEqDiff, E.back, E.backR, E.ix, Res.un, AC.un, AC.un.uns, AV.un, E.un, Option.map_some, Option.map_none, Option.getD_some, List.getElem?_cons_zero, List.getElem?_cons_succ, List.getElem?_nil, crkO, crkR]; rfl) (hR := by (try simp only [E.keepOf, E.get, E.ev, E.cv, E.fill', E.fill, E.slotsOf, Res.sh, AC.sh, AC.sh.shs, AV.sh, E.splice, List.map_cons, List.map_nil, List.cons_append, List.nil_append, List.append_nil, List.length_cons, List.length_nil, List.take_zero, List.drop_zero, List.take_succ_cons, List.drop_succ_cons, List.drop_nil, List.take_nil, List.set_cons_zero, List.set_cons_succ, Nat.zero_add, Nat.add_zero, Nat.reduceAdd, Nat.reduceSub, reduceIte, Nat.reduceEqDiff, E.back, E.backR, E.ix, Res.un, AC.un, AC.un.uns, AV.un, E.un, Option.map_some, Option.map_none, Option.getD_some, List.getElem?_cons_zero, List.getElem?_cons_succ, List.getElem?_nil, crkO, crkR]); rfl)
  refine E_region' (L := [0, 1, 2, 3]) rfl ?_
  refine x_light rfl rfl rfl (L_load rfl (by first | exact d_bp ty_25 | exact ld_rp ty_25 rfl | exact d_ep ty_25)) ?_
  refine x_pure rfl rfl rfl (L_move rfl) ?_
  refine x_call rfl rfl rfl rfl rfl ca_14 (c_laws_szCracker (c) (1048576) (by omega)) ?_
  rintro r S ⟨rfl, rfl⟩
  refine x_pure rfl rfl rfl (L_assign rfl) ?_
  refine EOps_nil ?_
  refine E_seq ?_
  refine E_seq ?_
  refine E_region' (L := [0, 1]) rfl ?_
  refine x_pure rfl rfl rfl (L_move rfl) ?_
  refine x_pure rfl rfl rfl (L_bin rfl rfl rfl rfl) ?_
  refine EOps_nil ?_
  refine E_cond rfl (fun hc20 => ?_) (fun hc20 => ?_)
  · refine E_seq ?_
    refine E_region' (L := [0]) rfl ?_
    refine x_pure rfl rfl rfl (L_assign rfl) ?_
    refine EOps_nil ?_
    refine E_ret ?_
    refine ⟨_, [], rfl, rfl, ?_, rfl⟩
    simp [AV.ren, ren_sc, ren_ro, AC.ren, AC.ren.rens, ix, rv1, E.get, E.ev, E.cv, E.fill', E.fill, E.slotsOf, *]
  · have h0 : ¬ szR (1048576) (c.vals.length + c.rows.length + c.piv.length) < 0 := by simpa using hc20
    have hl0 := szR_le h0
    have hr0 := szR_rng (l := 1048576) (n := c.vals.length + c.rows.length + c.piv.length) (by omega)
    have ha0 : c.vals.length ≤ 1048576 ∧ c.rows.length ≤ 1048576 ∧ c.piv.length ≤ 1048576 := by omega
    have hw := c_spec_SortPiece c v ha0
    have hg := c_impl_SortPiece c v ha0
    have hle0 := spC_le (v := v) ha0
    generalize spC c v = q at hw hg hle0
    generalize spK c v = ok at hw hg
    refine E_skip ?_
    refine E_seq ?_
    refine e_tidy [0, 1, 2, 4, 5, 20] ?_ (hb := by simp only [E.keepOf, E.get, E.ev, E.cv, E.fill', E.fill, E.slotsOf, Res.sh, AC.sh, AC.sh.shs, AV.sh, E.splice, List.map_cons, List.map_nil, List.cons_append, List.nil_append, List.append_nil, List.length_cons, List.length_nil, List.take_zero, List.drop_zero, List.take_succ_cons, List.drop_succ_cons, List.drop_nil, List.take_nil, List.set_cons_zero, List.set_cons_succ, Nat.zero_add, Nat.add_zero, Nat.reduceAdd, Nat.reduceSub, reduceIte, Nat.reduceEqDiff, E.back, E.backR, E.ix, Res.un, AC.un, AC.un.uns, AV.un, E.un, Option.map_some, Option.map_none, Option.getD_some, List.getElem?_cons_zero, List.getElem?_cons_succ, List.getElem?_nil, crkO, crkR]; rfl) (hR := by (try simp only [E.keepOf, E.get, E.ev, E.cv, E.fill', E.fill, E.slotsOf, Res.sh, AC.sh, AC.sh.shs, AV.sh, E.splice, List.map_cons, List.map_nil, List.cons_append, List.nil_append, List.append_nil, List.length_cons, List.length_nil, List.take_zero, List.drop_zero, List.take_succ_cons, List.drop_succ_cons, List.drop_nil, List.take_nil, List.set_cons_zero, List.set_cons_succ, Nat.zero_add, Nat.add_zero, Nat.reduceAdd, Nat.reduceSub, reduceIte, Nat.reduceEqDiff, E.back, E.backR, E.ix, Res.un, AC.un, AC.un.uns, AV.un, E.un, Option.map_some, Option.map_none, Option.getD_some, List.getElem?_cons_zero, List.getElem?_cons_succ, List.getElem?_nil, crkO, crkR]); rfl)
    refine E_region' (L := [0, 1, 2, 3, 4, 5, 6, 7, 8, 9]) rfl ?_
    refine x_light rfl rfl rfl (L_load rfl (by first | exact d_bp ty_25 | exact ld_rp ty_25 rfl | exact d_ep ty_25)) ?_
    refine x_call rfl rfl rfl rfl rfl ca_16 (c_laws_toCracker c ha0) ?_
    rintro r S ⟨rfl, rfl⟩
    refine x_pure rfl rfl rfl (L_move rfl) ?_
    refine x_call rfl rfl rfl rfl rfl ca_44 (hw) ?_
    rintro r S ⟨rfl, rfl⟩
    refine x_pure rfl rfl rfl (L_move rfl) ?_
    refine x_pure rfl rfl rfl (L_extract rfl rfl) ?_
    refine x_pure rfl rfl rfl (L_extract rfl rfl) ?_
    refine x_alloc rfl rfl rfl rfl za_31 ?_
    refine EOps_go rfl rfl (EOp_store rfl rfl rfl (by first | exact s_bp ty_31 | exact s_ep ty_31) ?_)
    refine x_pure rfl rfl rfl (L_assign rfl) ?_
    refine EOps_nil ?_
    refine E_seq ?_
    refine e_tidy [0, 1, 2, 4, 5, 6, 7, 20] ?_ (hb := by simp only [E.keepOf, E.get, E.ev, E.cv, E.fill', E.fill, E.slotsOf, Res.sh, AC.sh, AC.sh.shs, AV.sh, E.splice, List.map_cons, List.map_nil, List.cons_append, List.nil_append, List.append_nil, List.length_cons, List.length_nil, List.take_zero, List.drop_zero, List.take_succ_cons, List.drop_succ_cons, List.drop_nil, List.take_nil, List.set_cons_zero, List.set_cons_succ, Nat.zero_add, Nat.add_zero, Nat.reduceAdd, Nat.reduceSub, reduceIte, Nat.reduceEqDiff, E.back, E.backR, E.ix, Res.un, AC.un, AC.un.uns, AV.un, E.un, Option.map_some, Option.map_none, Option.getD_some, List.getElem?_cons_zero, List.getElem?_cons_succ, List.getElem?_nil, crkO, crkR]; rfl) (hR := by (try simp only [E.keepOf, E.get, E.ev, E.cv, E.fill', E.fill, E.slotsOf, Res.sh, AC.sh, AC.sh.shs, AV.sh, E.splice, List.map_cons, List.map_nil, List.cons_append, List.nil_append, List.append_nil, List.length_cons, List.length_nil, List.take_zero, List.drop_zero, List.take_succ_cons, List.drop_succ_cons, List.drop_nil, List.take_nil, List.set_cons_zero, List.set_cons_succ, Nat.zero_add, Nat.add_zero, Nat.reduceAdd, Nat.reduceSub, reduceIte, Nat.reduceEqDiff, E.back, E.backR, E.ix, Res.un, AC.un, AC.un.uns, AV.un, E.un, Option.map_some, Option.map_none, Option.getD_some, List.getElem?_cons_zero, List.getElem?_cons_succ, List.getElem?_nil, crkO, crkR]); rfl)
    refine E_region' (L := [0, 1, 2, 3]) rfl ?_
    refine x_light rfl rfl rfl (L_load rfl (by first | exact d_bp ty_25 | exact ld_rp ty_25 rfl | exact d_ep ty_25)) ?_
    refine x_call rfl rfl rfl rfl rfl ca_16 (c_laws_toCracker c ha0) ?_
    rintro r S ⟨rfl, rfl⟩
    refine x_alloc rfl rfl rfl rfl za_31 ?_
    refine EOps_go rfl rfl (EOp_store rfl rfl rfl (by first | exact s_bp ty_31 | exact s_ep ty_31) ?_)
    refine EOps_nil ?_
    refine E_seq ?_
    refine e_tidy [0, 1, 2, 4, 5, 6, 7, 8, 20] ?_ (hb := by simp only [E.keepOf, E.get, E.ev, E.cv, E.fill', E.fill, E.slotsOf, Res.sh, AC.sh, AC.sh.shs, AV.sh, E.splice, List.map_cons, List.map_nil, List.cons_append, List.nil_append, List.append_nil, List.length_cons, List.length_nil, List.take_zero, List.drop_zero, List.take_succ_cons, List.drop_succ_cons, List.drop_nil, List.take_nil, List.set_cons_zero, List.set_cons_succ, Nat.zero_add, Nat.add_zero, Nat.reduceAdd, Nat.reduceSub, reduceIte, Nat.reduceEqDiff, E.back, E.backR, E.ix, Res.un, AC.un, AC.un.uns, AV.un, E.un, Option.map_some, Option.map_none, Option.getD_some, List.getElem?_cons_zero, List.getElem?_cons_succ, List.getElem?_nil, crkO, crkR]; rfl) (hR := by (try simp only [E.keepOf, E.get, E.ev, E.cv, E.fill', E.fill, E.slotsOf, Res.sh, AC.sh, AC.sh.shs, AV.sh, E.splice, List.map_cons, List.map_nil, List.cons_append, List.nil_append, List.append_nil, List.length_cons, List.length_nil, List.take_zero, List.drop_zero, List.take_succ_cons, List.drop_succ_cons, List.drop_nil, List.take_nil, List.set_cons_zero, List.set_cons_succ, Nat.zero_add, Nat.add_zero, Nat.reduceAdd, Nat.reduceSub, reduceIte, Nat.reduceEqDiff, E.back, E.backR, E.ix, Res.un, AC.un, AC.un.uns, AV.un, E.un, Option.map_some, Option.map_none, Option.getD_some, List.getElem?_cons_zero, List.getElem?_cons_succ, List.getElem?_nil, crkO, crkR]); rfl)
    refine E_region' (L := [0, 1, 2, 3, 4, 5, 6, 7, 8]) rfl ?_
    refine x_light rfl rfl rfl (L_load rfl (by first | exact d_bp ty_31 | exact ld_rp ty_31 rfl | exact d_ep ty_31)) ?_
    refine x_pure rfl rfl rfl (L_move rfl) ?_
    refine x_call rfl rfl rfl rfl rfl ca_45 (hg) ?_
    rintro r S ⟨rfl, rfl⟩
    refine x_pure rfl rfl rfl (L_move rfl) ?_
    refine x_pure rfl rfl rfl (L_extract rfl rfl) ?_
    refine x_pure rfl rfl rfl (L_extract rfl rfl) ?_
    refine x_alloc rfl rfl rfl rfl za_31 ?_
    refine EOps_go rfl rfl (EOp_store rfl rfl rfl (by first | exact s_bp ty_31 | exact s_ep ty_31) ?_)
    refine x_pure rfl rfl rfl (L_assign rfl) ?_
    refine EOps_nil ?_
    refine E_seq ?_
    refine E_seq ?_
    refine e_tidy [0, 1, 2, 4, 5, 6, 7, 8, 9, 10, 20] ?_ (hb := by simp only [E.keepOf, E.get, E.ev, E.cv, E.fill', E.fill, E.slotsOf, Res.sh, AC.sh, AC.sh.shs, AV.sh, E.splice, List.map_cons, List.map_nil, List.cons_append, List.nil_append, List.append_nil, List.length_cons, List.length_nil, List.take_zero, List.drop_zero, List.take_succ_cons, List.drop_succ_cons, List.drop_nil, List.take_nil, List.set_cons_zero, List.set_cons_succ, Nat.zero_add, Nat.add_zero, Nat.reduceAdd, Nat.reduceSub, reduceIte, Nat.reduceEqDiff, E.back, E.backR, E.ix, Res.un, AC.un, AC.un.uns, AV.un, E.un, Option.map_some, Option.map_none, Option.getD_some, List.getElem?_cons_zero, List.getElem?_cons_succ, List.getElem?_nil, crkO, crkR]; rfl) (hR := by (try simp only [E.keepOf, E.get, E.ev, E.cv, E.fill', E.fill, E.slotsOf, Res.sh, AC.sh, AC.sh.shs, AV.sh, E.splice, List.map_cons, List.map_nil, List.cons_append, List.nil_append, List.append_nil, List.length_cons, List.length_nil, List.take_zero, List.drop_zero, List.take_succ_cons, List.drop_succ_cons, List.drop_nil, List.take_nil, List.set_cons_zero, List.set_cons_succ, Nat.zero_add, Nat.add_zero, Nat.reduceAdd, Nat.reduceSub, reduceIte, Nat.reduceEqDiff, E.back, E.backR, E.ix, Res.un, AC.un, AC.un.uns, AV.un, E.un, Option.map_some, Option.map_none, Option.getD_some, List.getElem?_cons_zero, List.getElem?_cons_succ, List.getElem?_nil, crkO, crkR]); rfl)
    refine E_region' (L := [0, 1, 2, 3, 4, 5, 6, 7, 8]) rfl ?_
    refine x_light rfl rfl rfl (L_load rfl (by first | exact d_bp ty_31 | exact ld_rp ty_31 rfl | exact d_ep ty_31)) ?_
    refine x_light rfl rfl rfl (L_load rfl (by first | exact d_bp ty_31 | exact ld_rp ty_31 rfl | exact d_ep ty_31)) ?_
    refine x_call rfl rfl rfl rfl rfl ca_19 (c_laws_eqCracker q q) ?_
    rintro r S ⟨rfl, rfl⟩
    refine x_pure rfl rfl rfl (L_not rfl rfl) ?_
    refine x_pure rfl rfl rfl (L_move rfl) ?_
    refine EOps_split 40 (b := _) rfl (fun hg40 => ?_) (fun hg40 => ?_)
    · first | (simp at hg40; done) | (simp at hg40; omega)
    · refine x_pure rfl rfl rfl (L_move rfl) ?_
      refine x_pure rfl rfl rfl (L_move rfl) ?_
      refine x_pure rfl rfl rfl (L_binB rfl bo_4 rfl rfl rfl) ?_
      refine x_pure rfl rfl rfl (L_pick rfl rfl) ?_
      refine EOps_nil ?_
      refine E_cond rfl (fun hc44 => ?_) (fun hc44 => ?_)
      · first | (simp at hc44; done) | (simp at hc44; omega)
      · refine E_skip ?_
        refine E_seq ?_
        refine E_seq ?_
        refine e_tidy [0, 1, 2, 4, 5, 6, 7, 8, 9, 10, 20, 44] ?_ (hb := by simp only [E.keepOf, E.get, E.ev, E.cv, E.fill', E.fill, E.slotsOf, Res.sh, AC.sh, AC.sh.shs, AV.sh, E.splice, List.map_cons, List.map_nil, List.cons_append, List.nil_append, List.append_nil, List.length_cons, List.length_nil, List.take_zero, List.drop_zero, List.take_succ_cons, List.drop_succ_cons, List.drop_nil, List.take_nil, List.set_cons_zero, List.set_cons_succ, Nat.zero_add, Nat.add_zero, Nat.reduceAdd, Nat.reduceSub, reduceIte, Nat.reduceEqDiff, E.back, E.backR, E.ix, Res.un, AC.un, AC.un.uns, AV.un, E.un, Option.map_some, Option.map_none, Option.getD_some, List.getElem?_cons_zero, List.getElem?_cons_succ, List.getElem?_nil, crkO, crkR]; rfl) (hR := by (try simp only [E.keepOf, E.get, E.ev, E.cv, E.fill', E.fill, E.slotsOf, Res.sh, AC.sh, AC.sh.shs, AV.sh, E.splice, List.map_cons, List.map_nil, List.cons_append, List.nil_append, List.append_nil, List.length_cons, List.length_nil, List.take_zero, List.drop_zero, List.take_succ_cons, List.drop_succ_cons, List.drop_nil, List.take_nil, List.set_cons_zero, List.set_cons_succ, Nat.zero_add, Nat.add_zero, Nat.reduceAdd, Nat.reduceSub, reduceIte, Nat.reduceEqDiff, E.back, E.backR, E.ix, Res.un, AC.un, AC.un.uns, AV.un, E.un, Option.map_some, Option.map_none, Option.getD_some, List.getElem?_cons_zero, List.getElem?_cons_succ, List.getElem?_nil, crkO, crkR]); rfl)
        refine E_drawT mixed ?_
        refine t_light 0 rfl rfl rfl (L_load rfl (by first | exact d_bp ty_31 | exact ld_rp ty_31 rfl | exact d_ep ty_31)) ?_
        refine t_light 1 rfl rfl rfl (L_load rfl (by first | exact d_bp ty_25 | exact ld_rp ty_25 rfl | exact d_ep ty_25)) ?_
        refine t_call 2 rfl rfl rfl rfl rfl ca_16 (c_laws_toCracker c ha0) ?_
        rintro r S ⟨rfl, rfl⟩
        refine t_call 3 rfl rfl rfl rfl rfl ca_19 (c_laws_eqCracker c c) ?_
        rintro r S ⟨rfl, rfl⟩
        refine t_old 4 rfl rfl rfl (L_not rfl rfl) ?_
        refine T_done (by kernel_rfl) ?_
        refine E_cond rfl (fun hc49 => ?_) (fun hc49 => ?_)
        · first | (simp at hc49; done) | (simp at hc49; omega)
        · refine E_skip ?_
          refine E_seq ?_
          refine E_region' (L := [0]) rfl ?_
          refine x_pure rfl rfl rfl (L_assign rfl) ?_
          refine EOps_nil ?_
          refine E_seq ?_
          refine e_tidy [0, 1, 2, 4, 5, 6, 7, 8, 9, 10, 11, 20, 44, 49] ?_ (hb := by simp only [E.keepOf, E.get, E.ev, E.cv, E.fill', E.fill, E.slotsOf, Res.sh, AC.sh, AC.sh.shs, AV.sh, E.splice, List.map_cons, List.map_nil, List.cons_append, List.nil_append, List.append_nil, List.length_cons, List.length_nil, List.take_zero, List.drop_zero, List.take_succ_cons, List.drop_succ_cons, List.drop_nil, List.take_nil, List.set_cons_zero, List.set_cons_succ, Nat.zero_add, Nat.add_zero, Nat.reduceAdd, Nat.reduceSub, reduceIte, Nat.reduceEqDiff, E.back, E.backR, E.ix, Res.un, AC.un, AC.un.uns, AV.un, E.un, Option.map_some, Option.map_none, Option.getD_some, List.getElem?_cons_zero, List.getElem?_cons_succ, List.getElem?_nil, crkO, crkR]; rfl) (hR := by (try simp only [E.keepOf, E.get, E.ev, E.cv, E.fill', E.fill, E.slotsOf, Res.sh, AC.sh, AC.sh.shs, AV.sh, E.splice, List.map_cons, List.map_nil, List.cons_append, List.nil_append, List.append_nil, List.length_cons, List.length_nil, List.take_zero, List.drop_zero, List.take_succ_cons, List.drop_succ_cons, List.drop_nil, List.take_nil, List.set_cons_zero, List.set_cons_succ, Nat.zero_add, Nat.add_zero, Nat.reduceAdd, Nat.reduceSub, reduceIte, Nat.reduceEqDiff, E.back, E.backR, E.ix, Res.un, AC.un, AC.un.uns, AV.un, E.un, Option.map_some, Option.map_none, Option.getD_some, List.getElem?_cons_zero, List.getElem?_cons_succ, List.getElem?_nil, crkO, crkR]); rfl)
          refine E_region' (L := [0, 1, 2, 3]) rfl ?_
          refine x_light rfl rfl rfl (L_load rfl (by first | exact d_bp ty_31 | exact ld_rp ty_31 rfl | exact d_ep ty_31)) ?_
          refine x_pure rfl rfl rfl (L_move rfl) ?_
          refine x_frame [8, 9, 10] rfl rfl rfl rfl rfl ca_21 rfl (c_laws_markCracker _ _ _ (1) c _ _ _ rfl rfl rfl ha0 (by omega)) ?_
          rintro r S ⟨r0, S0, ⟨rfl, rfl⟩, rfl, rfl⟩
          refine x_pure rfl rfl rfl (L_assign rfl) ?_
          refine EOps_nil ?_
          refine E_seq ?_
          refine E_seq ?_
          refine e_tidy [0, 1, 2, 4, 5, 6, 7, 8, 9, 10, 11, 20, 44, 49] ?_ (hb := by simp only [E.keepOf, E.get, E.ev, E.cv, E.fill', E.fill, E.slotsOf, Res.sh, AC.sh, AC.sh.shs, AV.sh, E.splice, List.map_cons, List.map_nil, List.cons_append, List.nil_append, List.append_nil, List.length_cons, List.length_nil, List.take_zero, List.drop_zero, List.take_succ_cons, List.drop_succ_cons, List.drop_nil, List.take_nil, List.set_cons_zero, List.set_cons_succ, Nat.zero_add, Nat.add_zero, Nat.reduceAdd, Nat.reduceSub, reduceIte, Nat.reduceEqDiff, E.back, E.backR, E.ix, Res.un, AC.un, AC.un.uns, AV.un, E.un, Option.map_some, Option.map_none, Option.getD_some, List.getElem?_cons_zero, List.getElem?_cons_succ, List.getElem?_nil, crkO, crkR]; rfl) (hR := by (try simp only [E.keepOf, E.get, E.ev, E.cv, E.fill', E.fill, E.slotsOf, Res.sh, AC.sh, AC.sh.shs, AV.sh, E.splice, List.map_cons, List.map_nil, List.cons_append, List.nil_append, List.append_nil, List.length_cons, List.length_nil, List.take_zero, List.drop_zero, List.take_succ_cons, List.drop_succ_cons, List.drop_nil, List.take_nil, List.set_cons_zero, List.set_cons_succ, Nat.zero_add, Nat.add_zero, Nat.reduceAdd, Nat.reduceSub, reduceIte, Nat.reduceEqDiff, E.back, E.backR, E.ix, Res.un, AC.un, AC.un.uns, AV.un, E.un, Option.map_some, Option.map_none, Option.getD_some, List.getElem?_cons_zero, List.getElem?_cons_succ, List.getElem?_nil, crkO, crkR]); rfl)
          refine E_region' (L := [0, 1, 2, 3, 4, 5, 6, 7, 8, 9, 10, 11, 12]) rfl ?_
          refine x_pure rfl rfl rfl (L_move rfl) ?_
          refine x_pure rfl rfl rfl (L_bin rfl rfl rfl rfl) ?_
          refine x_pure rfl rfl rfl (L_move rfl) ?_
          refine EOps_split 55 (b := _) rfl (fun hg55 => ?_) (fun hg55 => ?_)
          · first | (simp at hg55; done) | (simp at hg55; omega)
          · refine x_light rfl rfl rfl (L_load rfl (by first | exact d_bp ty_31 | exact ld_rp ty_31 rfl | exact d_ep ty_31)) ?_
            refine x_light rfl rfl rfl (L_load rfl (by first | exact d_bp ty_31 | exact ld_rp ty_31 rfl | exact d_ep ty_31)) ?_
            refine x_call rfl rfl rfl rfl rfl ca_19 (c_laws_eqCracker q q) ?_
            rintro r S ⟨rfl, rfl⟩
            refine x_pure rfl rfl rfl (L_not rfl rfl) ?_
            refine x_pure rfl rfl rfl (L_pick rfl rfl) ?_
            refine x_pure rfl rfl rfl (L_move rfl) ?_
            refine EOps_split 61 (b := _) rfl (fun hg61 => ?_) (fun hg61 => ?_)
            · first | (simp at hg61; done) | (simp at hg61; omega)
            · refine x_pure rfl rfl rfl (L_move rfl) ?_
              refine x_pure rfl rfl rfl (L_move rfl) ?_
              refine x_pure rfl rfl rfl (L_binB rfl bo_4 rfl rfl rfl) ?_
              refine x_pure rfl rfl rfl (L_pick rfl rfl) ?_
              refine EOps_nil ?_
              refine E_cond rfl (fun hc65 => ?_) (fun hc65 => ?_)
              · first | (simp at hc65; done) | (simp at hc65; omega)
              · refine E_skip ?_
                refine E_seq ?_
                refine E_region' (L := [0]) rfl ?_
                refine x_pure rfl rfl rfl (L_assign rfl) ?_
                refine EOps_nil ?_
                refine E_seq ?_
                refine e_tidy [0, 1, 2, 4, 5, 6, 7, 8, 9, 10, 11, 12, 20, 44, 49, 65] ?_ (hb := by simp only [E.keepOf, E.get, E.ev, E.cv, E.fill', E.fill, E.slotsOf, Res.sh, AC.sh, AC.sh.shs, AV.sh, E.splice, List.map_cons, List.map_nil, List.cons_append, List.nil_append, List.append_nil, List.length_cons, List.length_nil, List.take_zero, List.drop_zero, List.take_succ_cons, List.drop_succ_cons, List.drop_nil, List.take_nil, List.set_cons_zero, List.set_cons_succ, Nat.zero_add, Nat.add_zero, Nat.reduceAdd, Nat.reduceSub, reduceIte, Nat.reduceEqDiff, E.back, E.backR, E.ix, Res.un, AC.un, AC.un.uns, AV.un, E.un, Option.map_some, Option.map_none, Option.getD_some, List.getElem?_cons_zero, List.getElem?_cons_succ, List.getElem?_nil, crkO, crkR]; rfl) (hR := by (try simp only [E.keepOf, E.get, E.ev, E.cv, E.fill', E.fill, E.slotsOf, Res.sh, AC.sh, AC.sh.shs, AV.sh, E.splice, List.map_cons, List.map_nil, List.cons_append, List.nil_append, List.append_nil, List.length_cons, List.length_nil, List.take_zero, List.drop_zero, List.take_succ_cons, List.drop_succ_cons, List.drop_nil, List.take_nil, List.set_cons_zero, List.set_cons_succ, Nat.zero_add, Nat.add_zero, Nat.reduceAdd, Nat.reduceSub, reduceIte, Nat.reduceEqDiff, E.back, E.backR, E.ix, Res.un, AC.un, AC.un.uns, AV.un, E.un, Option.map_some, Option.map_none, Option.getD_some, List.getElem?_cons_zero, List.getElem?_cons_succ, List.getElem?_nil, crkO, crkR]); rfl)
                refine E_region' (L := [0, 1, 2, 3]) rfl ?_
                refine x_light rfl rfl rfl (L_load rfl (by first | exact d_bp ty_31 | exact ld_rp ty_31 rfl | exact d_ep ty_31)) ?_
                refine x_pure rfl rfl rfl (L_move rfl) ?_
                refine x_frame [12, 13, 14] rfl rfl rfl rfl rfl ca_21 rfl (c_laws_markCracker _ _ _ (1) q _ _ _ rfl rfl rfl hle0 (by omega)) ?_
                rintro r S ⟨r0, S0, ⟨rfl, rfl⟩, rfl, rfl⟩
                refine x_pure rfl rfl rfl (L_assign rfl) ?_
                refine EOps_nil ?_
                refine E_seq ?_
                refine E_region' (L := [0]) rfl ?_
                refine x_pure rfl rfl rfl (L_assign rfl) ?_
                refine EOps_nil ?_
                refine E_seq ?_
                refine e_tidy [0, 1, 2, 4, 5, 6, 7, 8, 9, 10, 11, 12, 13, 20, 44, 49, 65] ?_ (hb := by simp only [E.keepOf, E.get, E.ev, E.cv, E.fill', E.fill, E.slotsOf, Res.sh, AC.sh, AC.sh.shs, AV.sh, E.splice, List.map_cons, List.map_nil, List.cons_append, List.nil_append, List.append_nil, List.length_cons, List.length_nil, List.take_zero, List.drop_zero, List.take_succ_cons, List.drop_succ_cons, List.drop_nil, List.take_nil, List.set_cons_zero, List.set_cons_succ, Nat.zero_add, Nat.add_zero, Nat.reduceAdd, Nat.reduceSub, reduceIte, Nat.reduceEqDiff, E.back, E.backR, E.ix, Res.un, AC.un, AC.un.uns, AV.un, E.un, Option.map_some, Option.map_none, Option.getD_some, List.getElem?_cons_zero, List.getElem?_cons_succ, List.getElem?_nil, crkO, crkR]; rfl) (hR := by (try simp only [E.keepOf, E.get, E.ev, E.cv, E.fill', E.fill, E.slotsOf, Res.sh, AC.sh, AC.sh.shs, AV.sh, E.splice, List.map_cons, List.map_nil, List.cons_append, List.nil_append, List.append_nil, List.length_cons, List.length_nil, List.take_zero, List.drop_zero, List.take_succ_cons, List.drop_succ_cons, List.drop_nil, List.take_nil, List.set_cons_zero, List.set_cons_succ, Nat.zero_add, Nat.add_zero, Nat.reduceAdd, Nat.reduceSub, reduceIte, Nat.reduceEqDiff, E.back, E.backR, E.ix, Res.un, AC.un, AC.un.uns, AV.un, E.un, Option.map_some, Option.map_none, Option.getD_some, List.getElem?_cons_zero, List.getElem?_cons_succ, List.getElem?_nil, crkO, crkR]); rfl)
                refine E_region' (L := [0, 1, 2, 3]) rfl ?_
                refine x_light rfl rfl rfl (L_load rfl (by first | exact d_bp ty_31 | exact ld_rp ty_31 rfl | exact d_ep ty_31)) ?_
                refine x_pure rfl rfl rfl (L_move rfl) ?_
                refine x_call rfl rfl rfl rfl rfl ca_22 (c_laws_heldCracker (1) (q.vals.length) (q.rows.length) (q.piv.length) hle0 (by omega)) ?_ (ha := by exact cons_eq (agg_eq (cons_eq (lendC_whole rfl (by simp [ints_len, seqF_len])) (cons_eq (lendC_whole rfl (by simp [ints_len, seqF_len])) (cons_eq (lendC_whole rfl (by simp [pairs_len, seqP_len])) rfl)))) (cons_eq rfl rfl))
                rintro r S ⟨rfl, rfl⟩
                refine x_pure rfl rfl rfl (L_assign rfl) ?_
                refine EOps_nil ?_
                refine E_seq ?_
                refine E_seq ?_
                refine E_region' (L := [0, 1]) rfl ?_
                refine x_pure rfl rfl rfl (L_move rfl) ?_
                refine x_pure rfl rfl rfl (L_bin rfl rfl rfl rfl) ?_
                refine EOps_nil ?_
                refine E_cond rfl (fun hc73 => ?_) (fun hc73 => ?_)
                · first | (simp at hc73; done) | (simp at hc73; omega)
                · refine E_skip ?_
                  refine E_seq ?_
                  refine E_seq ?_
                  refine E_region' (L := [0, 1, 2]) rfl ?_
                  refine x_pure rfl rfl rfl (L_move rfl) ?_
                  refine x_pure rfl rfl rfl (L_move rfl) ?_
                  refine x_pure rfl rfl rfl (L_bin rfl rfl rfl rfl) ?_
                  refine EOps_nil ?_
                  refine E_cond rfl (fun hc76 => ?_) (fun hc76 => ?_)
                  · first | (simp at hc76; done) | (simp at hc76; omega)
                  · refine E_skip ?_
                    refine E_seq ?_
                    refine e_tidy [0, 1, 2, 4, 5, 6, 7, 8, 9, 10, 11, 12, 13, 20, 44, 49, 65, 73, 76] ?_ (hb := by simp only [E.keepOf, E.get, E.ev, E.cv, E.fill', E.fill, E.slotsOf, Res.sh, AC.sh, AC.sh.shs, AV.sh, E.splice, List.map_cons, List.map_nil, List.cons_append, List.nil_append, List.append_nil, List.length_cons, List.length_nil, List.take_zero, List.drop_zero, List.take_succ_cons, List.drop_succ_cons, List.drop_nil, List.take_nil, List.set_cons_zero, List.set_cons_succ, Nat.zero_add, Nat.add_zero, Nat.reduceAdd, Nat.reduceSub, reduceIte, Nat.reduceEqDiff, E.back, E.backR, E.ix, Res.un, AC.un, AC.un.uns, AV.un, E.un, Option.map_some, Option.map_none, Option.getD_some, List.getElem?_cons_zero, List.getElem?_cons_succ, List.getElem?_nil, crkO, crkR]; rfl) (hR := by (try simp only [E.keepOf, E.get, E.ev, E.cv, E.fill', E.fill, E.slotsOf, Res.sh, AC.sh, AC.sh.shs, AV.sh, E.splice, List.map_cons, List.map_nil, List.cons_append, List.nil_append, List.append_nil, List.length_cons, List.length_nil, List.take_zero, List.drop_zero, List.take_succ_cons, List.drop_succ_cons, List.drop_nil, List.take_nil, List.set_cons_zero, List.set_cons_succ, Nat.zero_add, Nat.add_zero, Nat.reduceAdd, Nat.reduceSub, reduceIte, Nat.reduceEqDiff, E.back, E.backR, E.ix, Res.un, AC.un, AC.un.uns, AV.un, E.un, Option.map_some, Option.map_none, Option.getD_some, List.getElem?_cons_zero, List.getElem?_cons_succ, List.getElem?_nil, crkO, crkR]); rfl)
                    refine E_region' (L := [0, 1, 2, 3, 4, 5, 6, 7, 8, 9]) rfl ?_
                    refine x_light rfl rfl rfl (L_load rfl (by first | exact d_bp ty_25 | exact ld_rp ty_25 rfl | exact d_ep ty_25)) ?_
                    refine x_call rfl rfl rfl rfl rfl ca_16 (c_laws_toCracker c ha0) ?_
                    rintro r S ⟨rfl, rfl⟩
                    refine x_pure rfl rfl rfl (L_move rfl) ?_
                    refine x_call rfl rfl rfl rfl rfl ca_45 (hg) ?_
                    rintro r S ⟨rfl, rfl⟩
                    refine x_pure rfl rfl rfl (L_move rfl) ?_
                    refine x_pure rfl rfl rfl (L_extract rfl rfl) ?_
                    refine x_pure rfl rfl rfl (L_extract rfl rfl) ?_
                    refine x_alloc rfl rfl rfl rfl za_31 ?_
                    refine EOps_go rfl rfl (EOp_store rfl rfl rfl (by first | exact s_bp ty_31 | exact s_ep ty_31) ?_)
                    refine x_pure rfl rfl rfl (L_assign rfl) ?_
                    refine EOps_nil ?_
                    refine E_seq ?_
                    refine E_seq ?_
                    refine e_tidy [0, 1, 2, 4, 5, 6, 7, 8, 9, 10, 11, 12, 13, 14, 15, 20, 44, 49, 65, 73, 76] ?_ (hb := by simp only [E.keepOf, E.get, E.ev, E.cv, E.fill', E.fill, E.slotsOf, Res.sh, AC.sh, AC.sh.shs, AV.sh, E.splice, List.map_cons, List.map_nil, List.cons_append, List.nil_append, List.append_nil, List.length_cons, List.length_nil, List.take_zero, List.drop_zero, List.take_succ_cons, List.drop_succ_cons, List.drop_nil, List.take_nil, List.set_cons_zero, List.set_cons_succ, Nat.zero_add, Nat.add_zero, Nat.reduceAdd, Nat.reduceSub, reduceIte, Nat.reduceEqDiff, E.back, E.backR, E.ix, Res.un, AC.un, AC.un.uns, AV.un, E.un, Option.map_some, Option.map_none, Option.getD_some, List.getElem?_cons_zero, List.getElem?_cons_succ, List.getElem?_nil, crkO, crkR]; rfl) (hR := by (try simp only [E.keepOf, E.get, E.ev, E.cv, E.fill', E.fill, E.slotsOf, Res.sh, AC.sh, AC.sh.shs, AV.sh, E.splice, List.map_cons, List.map_nil, List.cons_append, List.nil_append, List.append_nil, List.length_cons, List.length_nil, List.take_zero, List.drop_zero, List.take_succ_cons, List.drop_succ_cons, List.drop_nil, List.take_nil, List.set_cons_zero, List.set_cons_succ, Nat.zero_add, Nat.add_zero, Nat.reduceAdd, Nat.reduceSub, reduceIte, Nat.reduceEqDiff, E.back, E.backR, E.ix, Res.un, AC.un, AC.un.uns, AV.un, E.un, Option.map_some, Option.map_none, Option.getD_some, List.getElem?_cons_zero, List.getElem?_cons_succ, List.getElem?_nil, crkO, crkR]); rfl)
                    refine E_region' (L := [0, 1, 2, 3, 4, 5, 6, 7, 8]) rfl ?_
                    refine x_light rfl rfl rfl (L_load rfl (by first | exact d_bp ty_31 | exact ld_rp ty_31 rfl | exact d_ep ty_31)) ?_
                    refine x_light rfl rfl rfl (L_load rfl (by first | exact d_bp ty_31 | exact ld_rp ty_31 rfl | exact d_ep ty_31)) ?_
                    refine x_call rfl rfl rfl rfl rfl ca_19 (c_laws_eqCracker q q) ?_
                    rintro r S ⟨rfl, rfl⟩
                    refine x_pure rfl rfl rfl (L_not rfl rfl) ?_
                    refine x_pure rfl rfl rfl (L_move rfl) ?_
                    refine EOps_split 88 (b := _) rfl (fun hg88 => ?_) (fun hg88 => ?_)
                    · first | (simp at hg88; done) | (simp at hg88; omega)
                    · refine x_pure rfl rfl rfl (L_move rfl) ?_
                      refine x_pure rfl rfl rfl (L_move rfl) ?_
                      refine x_pure rfl rfl rfl (L_binB rfl bo_4 rfl rfl rfl) ?_
                      refine x_pure rfl rfl rfl (L_pick rfl rfl) ?_
                      refine EOps_nil ?_
                      refine E_cond rfl (fun hc92 => ?_) (fun hc92 => ?_)
                      · first | (simp at hc92; done) | (simp at hc92; omega)
                      · refine E_skip ?_
                        refine E_seq ?_
                        refine E_region' (L := [0]) rfl ?_
                        refine x_pure rfl rfl rfl (L_assign rfl) ?_
                        refine EOps_nil ?_
                        refine E_seq ?_
                        refine e_tidy [0, 1, 2, 4, 5, 6, 7, 8, 9, 10, 11, 12, 13, 14, 15, 20, 44, 49, 65, 73, 76, 92] ?_ (hb := by simp only [E.keepOf, E.get, E.ev, E.cv, E.fill', E.fill, E.slotsOf, Res.sh, AC.sh, AC.sh.shs, AV.sh, E.splice, List.map_cons, List.map_nil, List.cons_append, List.nil_append, List.append_nil, List.length_cons, List.length_nil, List.take_zero, List.drop_zero, List.take_succ_cons, List.drop_succ_cons, List.drop_nil, List.take_nil, List.set_cons_zero, List.set_cons_succ, Nat.zero_add, Nat.add_zero, Nat.reduceAdd, Nat.reduceSub, reduceIte, Nat.reduceEqDiff, E.back, E.backR, E.ix, Res.un, AC.un, AC.un.uns, AV.un, E.un, Option.map_some, Option.map_none, Option.getD_some, List.getElem?_cons_zero, List.getElem?_cons_succ, List.getElem?_nil, crkO, crkR]; rfl) (hR := by (try simp only [E.keepOf, E.get, E.ev, E.cv, E.fill', E.fill, E.slotsOf, Res.sh, AC.sh, AC.sh.shs, AV.sh, E.splice, List.map_cons, List.map_nil, List.cons_append, List.nil_append, List.append_nil, List.length_cons, List.length_nil, List.take_zero, List.drop_zero, List.take_succ_cons, List.drop_succ_cons, List.drop_nil, List.take_nil, List.set_cons_zero, List.set_cons_succ, Nat.zero_add, Nat.add_zero, Nat.reduceAdd, Nat.reduceSub, reduceIte, Nat.reduceEqDiff, E.back, E.backR, E.ix, Res.un, AC.un, AC.un.uns, AV.un, E.un, Option.map_some, Option.map_none, Option.getD_some, List.getElem?_cons_zero, List.getElem?_cons_succ, List.getElem?_nil, crkO, crkR]); rfl)
                        refine E_region' (L := [0, 1, 2, 3]) rfl ?_
                        refine x_light rfl rfl rfl (L_load rfl (by first | exact d_bp ty_31 | exact ld_rp ty_31 rfl | exact d_ep ty_31)) ?_
                        refine x_pure rfl rfl rfl (L_move rfl) ?_
                        refine x_call rfl rfl rfl rfl rfl ca_22 (c_laws_heldCracker (1) (q.vals.length) (q.rows.length) (q.piv.length) hle0 (by omega)) ?_ (ha := by exact cons_eq (agg_eq (cons_eq (lendC_whole rfl (by simp [ints_len, seqF_len])) (cons_eq (lendC_whole rfl (by simp [ints_len, seqF_len])) (cons_eq (lendC_whole rfl (by simp [pairs_len, seqP_len])) rfl)))) (cons_eq rfl rfl))
                        rintro r S ⟨rfl, rfl⟩
                        refine x_pure rfl rfl rfl (L_assign rfl) ?_
                        refine EOps_nil ?_
                        refine E_seq ?_
                        refine E_seq ?_
                        refine E_region' (L := [0, 1]) rfl ?_
                        refine x_pure rfl rfl rfl (L_move rfl) ?_
                        refine x_pure rfl rfl rfl (L_bin rfl rfl rfl rfl) ?_
                        refine EOps_nil ?_
                        refine E_cond rfl (fun hc97 => ?_) (fun hc97 => ?_)
                        · first | (simp at hc97; done) | (simp at hc97; omega)
                        · refine E_skip ?_
                          refine E_seq ?_
                          refine E_seq ?_
                          refine E_region' (L := [0, 1, 2]) rfl ?_
                          refine x_pure rfl rfl rfl (L_move rfl) ?_
                          refine x_pure rfl rfl rfl (L_move rfl) ?_
                          refine x_pure rfl rfl rfl (L_bin rfl rfl rfl rfl) ?_
                          refine EOps_nil ?_
                          refine E_cond rfl (fun hc100 => ?_) (fun hc100 => ?_)
                          · first | (simp at hc100; done) | (simp at hc100; omega)
                          · refine E_skip ?_
                            refine E_seq ?_
                            refine E_region' (L := [0]) rfl ?_
                            refine x_pure rfl rfl rfl (L_assign rfl) ?_
                            refine EOps_nil ?_
                            refine E_ret ?_
                            refine ⟨_, [], rfl, rfl, ?_, rfl⟩
                            simp [AV.ren, ren_sc, ren_ro, AC.ren, AC.ren.rens, ix, rv1, E.get, E.ev, E.cv, E.fill', E.fill, E.slotsOf, *]

end Go.Proofs.Ytmajgcalliojlaa.E
