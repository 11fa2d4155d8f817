/- Walks through functions, by program out of the session's annotations. -/
import Derived.Test.YtkaikajjhhnifaaA49
import Derived.Test.YtkaikajjhhnifaaA24
import Derived.Test.YtkaikajjhhnifaaA31
import Derived.Test.YtkaikajjhhnifaaF3
namespace Go.Proofs.Ytkaikajjhhnifaa.E
open Go Go.RowKit Go.Proofs
set_option linter.unusedVariables false
set_option linter.unusedSimpArgs false

set_option maxRecDepth 20000 in
set_option maxHeartbeats 4000000 in
theorem c_laws_FnExactLiveRows (c : Crk) (p : Pnd) (r : Int × Int) : EFn Try.prog 12 [.agg (crkC c), .agg (pndC p), .agg [.sc (.int .i64 r.1), .sc (.int .i64 r.2)]] [] (fun r S => r = .c (.sc (.bool true)) ∧ S = []) := by
  refine E_fn Try.func12 rfl (Nat.le_of_ble_eq_true rfl) ?_
  refine E_seq ?_
  refine E_region' (L := [0, 1, 2, 3]) rfl ?_
  refine x_box rfl rfl rfl rfl rfl ?_
  refine x_box rfl rfl rfl rfl rfl ?_
  refine x_box rfl rfl rfl rfl rfl ?_
  refine x_pure rfl rfl rfl (L_assign rfl) ?_
  refine EOps_nil ?_
  refine E_seq ?_
  refine E_region' (L := [0]) rfl ?_
  refine x_pure rfl rfl rfl (L_assign rfl) ?_
  refine EOps_nil ?_
  refine E_seq ?_
  refine e_tidy [0, 1, 2, 3, 4, 5, 6, 7] ?_ (hb := by simp only [E.keepOf, E.get, E.ev, E.cv, E.fill', E.fill, E.slotsOf, Res.sh, AC.sh, AC.sh.shs, AV.sh, E.splice, List.map_cons, List.map_nil, List.cons_append, List.nil_append, List.append_nil, List.length_cons, List.length_nil, List.take_zero, List.drop_zero, List.take_succ_cons, List.drop_succ_cons, List.drop_nil, List.take_nil, List.set_cons_zero, List.set_cons_succ, Nat.zero_add, Nat.add_zero, Nat.reduceAdd, Nat.reduceSub, reduceIte, Nat.reduceEqDiff, E.back, E.backR, E.ix, Res.un, AC.un, AC.un.uns, AV.un, E.un, Option.map_some, Option.map_none, Option.getD_some, List.getElem?_cons_zero, List.getElem?_cons_succ, List.getElem?_nil, crkO, crkR]; rfl) (hR := by (try simp only [E.keepOf, E.get, E.ev, E.cv, E.fill', E.fill, E.slotsOf, Res.sh, AC.sh, AC.sh.shs, AV.sh, E.splice, List.map_cons, List.map_nil, List.cons_append, List.nil_append, List.append_nil, List.length_cons, List.length_nil, List.take_zero, List.drop_zero, List.take_succ_cons, List.drop_succ_cons, List.drop_nil, List.take_nil, List.set_cons_zero, List.set_cons_succ, Nat.zero_add, Nat.add_zero, Nat.reduceAdd, Nat.reduceSub, reduceIte, Nat.reduceEqDiff, E.back, E.backR, E.ix, Res.un, AC.un, AC.un.uns, AV.un, E.un, Option.map_some, Option.map_none, Option.getD_some, List.getElem?_cons_zero, List.getElem?_cons_succ, List.getElem?_nil, crkO, crkR]); rfl)
  refine E_region' (L := [0, 1, 2, 3]) rfl ?_
  refine x_light rfl rfl rfl (L_load rfl (by first | exact d_bp ty_25 | exact ld_rp ty_25 rfl | exact d_ep ty_25)) ?_
  refine x_pure rfl rfl rfl (L_move rfl) ?_
  refine x_call rfl rfl rfl rfl rfl ca_15 (c_laws_szCracker (c) (1048576) (by omega)) ?_
  rintro r S ⟨rfl, rfl⟩
  refine x_pure rfl rfl rfl (L_assign rfl) ?_
  refine EOps_nil ?_
  refine E_seq ?_
  refine E_seq ?_
  refine E_region' (L := [0, 1]) rfl ?_
  refine x_pure rfl rfl rfl (L_move rfl) ?_
  refine x_pure rfl rfl rfl (L_bin rfl rfl rfl rfl) ?_
  refine EOps_nil ?_
  refine E_cond rfl (fun hc20 => ?_) (fun hc20 => ?_)
  · refine E_seq ?_
    refine E_region' (L := [0]) rfl ?_
    refine x_pure rfl rfl rfl (L_assign rfl) ?_
    refine EOps_nil ?_
    refine E_ret ?_
    refine ⟨_, [], rfl, rfl, ?_, rfl⟩
    simp [AV.ren, ren_sc, ren_ro, AC.ren, AC.ren.rens, ix, rv1, E.get, E.ev, E.cv, E.fill', E.fill, E.slotsOf, *]
  · have h0 : ¬ szR (1048576) (c.vals.length + c.rows.length + c.piv.length) < 0 := by simpa using hc20
    have hl0 := szR_le h0
    have hr0 := szR_rng (l := 1048576) (n := c.vals.length + c.rows.length + c.piv.length) (by omega)
    have ha0 : c.vals.length ≤ 1048576 ∧ c.rows.length ≤ 1048576 ∧ c.piv.length ≤ 1048576 := by omega
    refine E_skip ?_
    refine E_seq ?_
    refine e_tidy [0, 1, 2, 3, 4, 5, 6, 7, 20] ?_ (hb := by simp only [E.keepOf, E.get, E.ev, E.cv, E.fill', E.fill, E.slotsOf, Res.sh, AC.sh, AC.sh.shs, AV.sh, E.splice, List.map_cons, List.map_nil, List.cons_append, List.nil_append, List.append_nil, List.length_cons, List.length_nil, List.take_zero, List.drop_zero, List.take_succ_cons, List.drop_succ_cons, List.drop_nil, List.take_nil, List.set_cons_zero, List.set_cons_succ, Nat.zero_add, Nat.add_zero, Nat.reduceAdd, Nat.reduceSub, reduceIte, Nat.reduceEqDiff, E.back, E.backR, E.ix, Res.un, AC.un, AC.un.uns, AV.un, E.un, Option.map_some, Option.map_none, Option.getD_some, List.getElem?_cons_zero, List.getElem?_cons_succ, List.getElem?_nil, crkO, crkR]; rfl) (hR := by (try simp only [E.keepOf, E.get, E.ev, E.cv, E.fill', E.fill, E.slotsOf, Res.sh, AC.sh, AC.sh.shs, AV.sh, E.splice, List.map_cons, List.map_nil, List.cons_append, List.nil_append, List.append_nil, List.length_cons, List.length_nil, List.take_zero, List.drop_zero, List.take_succ_cons, List.drop_succ_cons, List.drop_nil, List.take_nil, List.set_cons_zero, List.set_cons_succ, Nat.zero_add, Nat.add_zero, Nat.reduceAdd, Nat.reduceSub, reduceIte, Nat.reduceEqDiff, E.back, E.backR, E.ix, Res.un, AC.un, AC.un.uns, AV.un, E.un, Option.map_some, Option.map_none, Option.getD_some, List.getElem?_cons_zero, List.getElem?_cons_succ, List.getElem?_nil, crkO, crkR]); rfl)
    refine E_region' (L := [0, 1, 2, 3]) rfl ?_
    refine x_light rfl rfl rfl (L_load rfl (by first | exact d_bp ty_40 | exact ld_rp ty_40 rfl | exact d_ep ty_40)) ?_
    refine x_pure rfl rfl rfl (L_move rfl) ?_
    refine x_call rfl rfl rfl rfl rfl ca_24 (c_laws_szPending (p) (szR (1048576) (c.vals.length + c.rows.length + c.piv.length)) hr0) ?_
    rintro r S ⟨rfl, rfl⟩
    refine x_pure rfl rfl rfl (L_assign rfl) ?_
    refine EOps_nil ?_
    refine E_seq ?_
    refine E_seq ?_
    refine E_region' (L := [0, 1]) rfl ?_
    refine x_pure rfl rfl rfl (L_move rfl) ?_
    refine x_pure rfl rfl rfl (L_bin rfl rfl rfl rfl) ?_
    refine EOps_nil ?_
    refine E_cond rfl (fun hc25 => ?_) (fun hc25 => ?_)
    · refine E_seq ?_
      refine E_region' (L := [0]) rfl ?_
      refine x_pure rfl rfl rfl (L_assign rfl) ?_
      refine EOps_nil ?_
      refine E_ret ?_
      refine ⟨_, [], rfl, rfl, ?_, rfl⟩
      simp [AV.ren, ren_sc, ren_ro, AC.ren, AC.ren.rens, ix, rv1, E.get, E.ev, E.cv, E.fill', E.fill, E.slotsOf, *]
    · have h1 : ¬ szR (szR (1048576) (c.vals.length + c.rows.length + c.piv.length)) (p.ins.length + p.del.length) < 0 := by simpa using hc25
      have hl1 := szR_le h1
      have hr1 := szR_rng (l := szR (1048576) (c.vals.length + c.rows.length + c.piv.length)) (n := p.ins.length + p.del.length) hr0
      have ha1 : p.ins.length ≤ 1048576 ∧ p.del.length ≤ 1048576 := by omega
      have hw := c_spec_LiveRows c p r ⟨ha0.2.1, by omega⟩
      have hg := c_impl_LiveRows c p r ⟨ha0.2.1, by omega⟩
      have hle0 := live_le (c := c) (p := p) (r := r)
      generalize liveL c p r = l at hw hg hle0
      refine E_skip ?_
      refine E_seq ?_
      refine e_tidy [0, 1, 2, 3, 4, 5, 6, 7, 20, 25] ?_ (hb := by simp only [E.keepOf, E.get, E.ev, E.cv, E.fill', E.fill, E.slotsOf, Res.sh, AC.sh, AC.sh.shs, AV.sh, E.splice, List.map_cons, List.map_nil, List.cons_append, List.nil_append, List.append_nil, List.length_cons, List.length_nil, List.take_zero, List.drop_zero, List.take_succ_cons, List.drop_succ_cons, List.drop_nil, List.take_nil, List.set_cons_zero, List.set_cons_succ, Nat.zero_add, Nat.add_zero, Nat.reduceAdd, Nat.reduceSub, reduceIte, Nat.reduceEqDiff, E.back, E.backR, E.ix, Res.un, AC.un, AC.un.uns, AV.un, E.un, Option.map_some, Option.map_none, Option.getD_some, List.getElem?_cons_zero, List.getElem?_cons_succ, List.getElem?_nil, crkO, crkR]; rfl) (hR := by (try simp only [E.keepOf, E.get, E.ev, E.cv, E.fill', E.fill, E.slotsOf, Res.sh, AC.sh, AC.sh.shs, AV.sh, E.splice, List.map_cons, List.map_nil, List.cons_append, List.nil_append, List.append_nil, List.length_cons, List.length_nil, List.take_zero, List.drop_zero, List.take_succ_cons, List.drop_succ_cons, List.drop_nil, List.take_nil, List.set_cons_zero, List.set_cons_succ, Nat.zero_add, Nat.add_zero, Nat.reduceAdd, Nat.reduceSub, reduceIte, Nat.reduceEqDiff, E.back, E.backR, E.ix, Res.un, AC.un, AC.un.uns, AV.un, E.un, Option.map_some, Option.map_none, Option.getD_some, List.getElem?_cons_zero, List.getElem?_cons_succ, List.getElem?_nil, crkO, crkR]); rfl)
      refine E_drawT mixed ?_
      refine t_light 0 rfl rfl rfl (L_load rfl (by first | exact d_bp ty_25 | exact ld_rp ty_25 rfl | exact d_ep ty_25)) ?_
      refine t_light 2 rfl rfl rfl (L_load rfl (by first | exact d_bp ty_40 | exact ld_rp ty_40 rfl | exact d_ep ty_40)) ?_
      refine t_light 4 rfl rfl rfl (L_load rfl (by first | exact d_bp ty_78 | exact ld_rp ty_78 rfl | exact d_ep ty_78)) ?_
      refine t_fresh 2 [(⟨none, 1, 27, 0⟩, _), (⟨none, 3, 29, 0⟩, _), (⟨none, 5, 31, 0⟩, _)] [(27, .any), (29, .any), (31, .any)] [1, 3, 5] ⟨.one rfl rfl rfl (by decide) (f_call rfl rfl ca_17 (c_laws_toCracker c ha0)), .one rfl rfl rfl (by decide) (f_call rfl rfl ca_26 (c_laws_toPending p ha1)), .one rfl rfl rfl (by decide) (f_call rfl rfl ca_55 (c_laws_toRange r.1 r.2)), trivial⟩ ?_
      refine fk_cons ?_
      rintro r S ⟨rfl, rfl⟩
      refine fk_cons ?_
      rintro r S ⟨rfl, rfl⟩
      refine fk_cons ?_
      rintro r S ⟨rfl, rfl⟩
      refine fk_nil ?_
      refine t_call 6 rfl rfl rfl rfl rfl ca_70 (hw) ?_
      rintro r S ⟨rfl, rfl⟩
      refine t_pure 7 rfl rfl rfl (L_assign rfl) ?_
      refine T_done (by kernel_rfl) ?_
      refine E_seq ?_
      refine e_tidy [0, 1, 2, 3, 4, 5, 6, 7, 8, 20, 25] ?_ (hb := by simp only [E.keepOf, E.get, E.ev, E.cv, E.fill', E.fill, E.slotsOf, Res.sh, AC.sh, AC.sh.shs, AV.sh, E.splice, List.map_cons, List.map_nil, List.cons_append, List.nil_append, List.append_nil, List.length_cons, List.length_nil, List.take_zero, List.drop_zero, List.take_succ_cons, List.drop_succ_cons, List.drop_nil, List.take_nil, List.set_cons_zero, List.set_cons_succ, Nat.zero_add, Nat.add_zero, Nat.reduceAdd, Nat.reduceSub, reduceIte, Nat.reduceEqDiff, E.back, E.backR, E.ix, Res.un, AC.un, AC.un.uns, AV.un, E.un, Option.map_some, Option.map_none, Option.getD_some, List.getElem?_cons_zero, List.getElem?_cons_succ, List.getElem?_nil, crkO, crkR]; rfl) (hR := by (try simp only [E.keepOf, E.get, E.ev, E.cv, E.fill', E.fill, E.slotsOf, Res.sh, AC.sh, AC.sh.shs, AV.sh, E.splice, List.map_cons, List.map_nil, List.cons_append, List.nil_append, List.append_nil, List.length_cons, List.length_nil, List.take_zero, List.drop_zero, List.take_succ_cons, List.drop_succ_cons, List.drop_nil, List.take_nil, List.set_cons_zero, List.set_cons_succ, Nat.zero_add, Nat.add_zero, Nat.reduceAdd, Nat.reduceSub, reduceIte, Nat.reduceEqDiff, E.back, E.backR, E.ix, Res.un, AC.un, AC.un.uns, AV.un, E.un, Option.map_some, Option.map_none, Option.getD_some, List.getElem?_cons_zero, List.getElem?_cons_succ, List.getElem?_nil, crkO, crkR]); rfl)
      refine E_region' (L := [0, 1, 2, 3]) rfl ?_
      refine x_light rfl rfl rfl (L_load rfl (by first | exact d_bp ty_25 | exact ld_rp ty_25 rfl | exact d_ep ty_25)) ?_
      refine x_call rfl rfl rfl rfl rfl ca_17 (c_laws_toCracker c ha0) ?_
      rintro r S ⟨rfl, rfl⟩
      refine x_alloc rfl rfl rfl rfl za_31 ?_
      refine EOps_go rfl rfl (EOp_store rfl rfl rfl (by first | exact s_bp ty_31 | exact s_ep ty_31) ?_)
      refine EOps_nil ?_
      refine E_seq ?_
      refine e_tidy [0, 1, 2, 3, 4, 5, 6, 7, 8, 9, 20, 25] ?_ (hb := by simp only [E.keepOf, E.get, E.ev, E.cv, E.fill', E.fill, E.slotsOf, Res.sh, AC.sh, AC.sh.shs, AV.sh, E.splice, List.map_cons, List.map_nil, List.cons_append, List.nil_append, List.append_nil, List.length_cons, List.length_nil, List.take_zero, List.drop_zero, List.take_succ_cons, List.drop_succ_cons, List.drop_nil, List.take_nil, List.set_cons_zero, List.set_cons_succ, Nat.zero_add, Nat.add_zero, Nat.reduceAdd, Nat.reduceSub, reduceIte, Nat.reduceEqDiff, E.back, E.backR, E.ix, Res.un, AC.un, AC.un.uns, AV.un, E.un, Option.map_some, Option.map_none, Option.getD_some, List.getElem?_cons_zero, List.getElem?_cons_succ, List.getElem?_nil, crkO, crkR]; rfl) (hR := by (try simp only [E.keepOf, E.get, E.ev, E.cv, E.fill', E.fill, E.slotsOf, Res.sh, AC.sh, AC.sh.shs, AV.sh, E.splice, List.map_cons, List.map_nil, List.cons_append, List.nil_append, List.append_nil, List.length_cons, List.length_nil, List.take_zero, List.drop_zero, List.take_succ_cons, List.drop_succ_cons, List.drop_nil, List.take_nil, List.set_cons_zero, List.set_cons_succ, Nat.zero_add, Nat.add_zero, Nat.reduceAdd, Nat.reduceSub, reduceIte, Nat.reduceEqDiff, E.back, E.backR, E.ix, Res.un, AC.un, AC.un.uns, AV.un, E.un, Option.map_some, Option.map_none, Option.getD_some, List.getElem?_cons_zero, List.getElem?_cons_succ, List.getElem?_nil, crkO, crkR]); rfl)
      refine E_region' (L := [0, 1, 2, 3]) rfl ?_
      refine x_light rfl rfl rfl (L_load rfl (by first | exact d_bp ty_40 | exact ld_rp ty_40 rfl | exact d_ep ty_40)) ?_
      refine x_call rfl rfl rfl rfl rfl ca_26 (c_laws_toPending p ha1) ?_
      rintro r S ⟨rfl, rfl⟩
      refine x_alloc rfl rfl rfl rfl za_46 ?_
      refine EOps_go rfl rfl (EOp_store rfl rfl rfl (by first | exact s_bp ty_46 | exact s_ep ty_46) ?_)
      refine EOps_nil ?_
      refine E_seq ?_
      refine e_tidy [0, 1, 2, 3, 4, 5, 6, 7, 8, 9, 10, 20, 25] ?_ (hb := by simp only [E.keepOf, E.get, E.ev, E.cv, E.fill', E.fill, E.slotsOf, Res.sh, AC.sh, AC.sh.shs, AV.sh, E.splice, List.map_cons, List.map_nil, List.cons_append, List.nil_append, List.append_nil, List.length_cons, List.length_nil, List.take_zero, List.drop_zero, List.take_succ_cons, List.drop_succ_cons, List.drop_nil, List.take_nil, List.set_cons_zero, List.set_cons_succ, Nat.zero_add, Nat.add_zero, Nat.reduceAdd, Nat.reduceSub, reduceIte, Nat.reduceEqDiff, E.back, E.backR, E.ix, Res.un, AC.un, AC.un.uns, AV.un, E.un, Option.map_some, Option.map_none, Option.getD_some, List.getElem?_cons_zero, List.getElem?_cons_succ, List.getElem?_nil, crkO, crkR]; rfl) (hR := by (try simp only [E.keepOf, E.get, E.ev, E.cv, E.fill', E.fill, E.slotsOf, Res.sh, AC.sh, AC.sh.shs, AV.sh, E.splice, List.map_cons, List.map_nil, List.cons_append, List.nil_append, List.append_nil, List.length_cons, List.length_nil, List.take_zero, List.drop_zero, List.take_succ_cons, List.drop_succ_cons, List.drop_nil, List.take_nil, List.set_cons_zero, List.set_cons_succ, Nat.zero_add, Nat.add_zero, Nat.reduceAdd, Nat.reduceSub, reduceIte, Nat.reduceEqDiff, E.back, E.backR, E.ix, Res.un, AC.un, AC.un.uns, AV.un, E.un, Option.map_some, Option.map_none, Option.getD_some, List.getElem?_cons_zero, List.getElem?_cons_succ, List.getElem?_nil, crkO, crkR]); rfl)
      refine E_drawT mixed ?_
      refine t_light 0 rfl rfl rfl (L_load rfl (by first | exact d_bp ty_31 | exact ld_rp ty_31 rfl | exact d_ep ty_31)) ?_
      refine t_light 1 rfl rfl rfl (L_load rfl (by first | exact d_bp ty_46 | exact ld_rp ty_46 rfl | exact d_ep ty_46)) ?_
      refine t_light 2 rfl rfl rfl (L_load rfl (by first | exact d_bp ty_78 | exact ld_rp ty_78 rfl | exact d_ep ty_78)) ?_
      refine t_call 3 rfl rfl rfl rfl rfl ca_55 (c_laws_toRange r.1 r.2) ?_
      rintro r S ⟨rfl, rfl⟩
      refine t_call 4 rfl rfl rfl rfl rfl ca_71 (hg) ?_
      rintro r S ⟨rfl, rfl⟩
      refine t_pure 5 rfl rfl rfl (L_assign rfl) ?_
      refine T_done (by kernel_rfl) ?_
      refine E_seq ?_
      refine E_seq ?_
      refine e_tidy [0, 1, 2, 3, 4, 5, 6, 7, 8, 9, 10, 11, 20, 25] ?_ (hb := by simp only [E.keepOf, E.get, E.ev, E.cv, E.fill', E.fill, E.slotsOf, Res.sh, AC.sh, AC.sh.shs, AV.sh, E.splice, List.map_cons, List.map_nil, List.cons_append, List.nil_append, List.append_nil, List.length_cons, List.length_nil, List.take_zero, List.drop_zero, List.take_succ_cons, List.drop_succ_cons, List.drop_nil, List.take_nil, List.set_cons_zero, List.set_cons_succ, Nat.zero_add, Nat.add_zero, Nat.reduceAdd, Nat.reduceSub, reduceIte, Nat.reduceEqDiff, E.back, E.backR, E.ix, Res.un, AC.un, AC.un.uns, AV.un, E.un, Option.map_some, Option.map_none, Option.getD_some, List.getElem?_cons_zero, List.getElem?_cons_succ, List.getElem?_nil, crkO, crkR]; rfl) (hR := by (try simp only [E.keepOf, E.get, E.ev, E.cv, E.fill', E.fill, E.slotsOf, Res.sh, AC.sh, AC.sh.shs, AV.sh, E.splice, List.map_cons, List.map_nil, List.cons_append, List.nil_append, List.append_nil, List.length_cons, List.length_nil, List.take_zero, List.drop_zero, List.take_succ_cons, List.drop_succ_cons, List.drop_nil, List.take_nil, List.set_cons_zero, List.set_cons_succ, Nat.zero_add, Nat.add_zero, Nat.reduceAdd, Nat.reduceSub, reduceIte, Nat.reduceEqDiff, E.back, E.backR, E.ix, Res.un, AC.un, AC.un.uns, AV.un, E.un, Option.map_some, Option.map_none, Option.getD_some, List.getElem?_cons_zero, List.getElem?_cons_succ, List.getElem?_nil, crkO, crkR]); rfl)
      refine E_region' (L := [0, 1, 2, 3]) rfl ?_
      refine x_pure rfl rfl rfl (L_move rfl) ?_
      refine x_pure rfl rfl rfl (L_move rfl) ?_
      refine x_call rfl rfl rfl rfl rfl ca_63 (c_laws_eqIntS l l) ?_
      rintro r S ⟨rfl, rfl⟩
      refine x_pure rfl rfl rfl (L_not rfl rfl) ?_
      refine EOps_nil ?_
      refine E_cond rfl (fun hc45 => ?_) (fun hc45 => ?_)
      · first | (simp at hc45; done) | (simp at hc45; omega)
      · refine E_skip ?_
        refine E_seq ?_
        refine E_seq ?_
        refine e_tidy [0, 1, 2, 3, 4, 5, 6, 7, 8, 9, 10, 11, 20, 25, 45] ?_ (hb := by simp only [E.keepOf, E.get, E.ev, E.cv, E.fill', E.fill, E.slotsOf, Res.sh, AC.sh, AC.sh.shs, AV.sh, E.splice, List.map_cons, List.map_nil, List.cons_append, List.nil_append, List.append_nil, List.length_cons, List.length_nil, List.take_zero, List.drop_zero, List.take_succ_cons, List.drop_succ_cons, List.drop_nil, List.take_nil, List.set_cons_zero, List.set_cons_succ, Nat.zero_add, Nat.add_zero, Nat.reduceAdd, Nat.reduceSub, reduceIte, Nat.reduceEqDiff, E.back, E.backR, E.ix, Res.un, AC.un, AC.un.uns, AV.un, E.un, Option.map_some, Option.map_none, Option.getD_some, List.getElem?_cons_zero, List.getElem?_cons_succ, List.getElem?_nil, crkO, crkR]; rfl) (hR := by (try simp only [E.keepOf, E.get, E.ev, E.cv, E.fill', E.fill, E.slotsOf, Res.sh, AC.sh, AC.sh.shs, AV.sh, E.splice, List.map_cons, List.map_nil, List.cons_append, List.nil_append, List.append_nil, List.length_cons, List.length_nil, List.take_zero, List.drop_zero, List.take_succ_cons, List.drop_succ_cons, List.drop_nil, List.take_nil, List.set_cons_zero, List.set_cons_succ, Nat.zero_add, Nat.add_zero, Nat.reduceAdd, Nat.reduceSub, reduceIte, Nat.reduceEqDiff, E.back, E.backR, E.ix, Res.un, AC.un, AC.un.uns, AV.un, E.un, Option.map_some, Option.map_none, Option.getD_some, List.getElem?_cons_zero, List.getElem?_cons_succ, List.getElem?_nil, crkO, crkR]); rfl)
        refine E_drawT mixed ?_
        refine t_light 0 rfl rfl rfl (L_load rfl (by first | exact d_bp ty_31 | exact ld_rp ty_31 rfl | exact d_ep ty_31)) ?_
        refine t_light 1 rfl rfl rfl (L_load rfl (by first | exact d_bp ty_25 | exact ld_rp ty_25 rfl | exact d_ep ty_25)) ?_
        refine t_call 2 rfl rfl rfl rfl rfl ca_17 (c_laws_toCracker c ha0) ?_
        rintro r S ⟨rfl, rfl⟩
        refine t_call 3 rfl rfl rfl rfl rfl ca_20 (c_laws_eqCracker c c) ?_
        rintro r S ⟨rfl, rfl⟩
        refine t_old 4 rfl rfl rfl (L_not rfl rfl) ?_
        refine T_done (by kernel_rfl) ?_
        refine E_cond rfl (fun hc50 => ?_) (fun hc50 => ?_)
        · first | (simp at hc50; done) | (simp at hc50; omega)
        · refine E_skip ?_
          refine E_seq ?_
          refine E_seq ?_
          refine e_tidy [0, 1, 2, 3, 4, 5, 6, 7, 8, 9, 10, 11, 20, 25, 45, 50] ?_ (hb := by simp only [E.keepOf, E.get, E.ev, E.cv, E.fill', E.fill, E.slotsOf, Res.sh, AC.sh, AC.sh.shs, AV.sh, E.splice, List.map_cons, List.map_nil, List.cons_append, List.nil_append, List.append_nil, List.length_cons, List.length_nil, List.take_zero, List.drop_zero, List.take_succ_cons, List.drop_succ_cons, List.drop_nil, List.take_nil, List.set_cons_zero, List.set_cons_succ, Nat.zero_add, Nat.add_zero, Nat.reduceAdd, Nat.reduceSub, reduceIte, Nat.reduceEqDiff, E.back, E.backR, E.ix, Res.un, AC.un, AC.un.uns, AV.un, E.un, Option.map_some, Option.map_none, Option.getD_some, List.getElem?_cons_zero, List.getElem?_cons_succ, List.getElem?_nil, crkO, crkR]; rfl) (hR := by (try simp only [E.keepOf, E.get, E.ev, E.cv, E.fill', E.fill, E.slotsOf, Res.sh, AC.sh, AC.sh.shs, AV.sh, E.splice, List.map_cons, List.map_nil, List.cons_append, List.nil_append, List.append_nil, List.length_cons, List.length_nil, List.take_zero, List.drop_zero, List.take_succ_cons, List.drop_succ_cons, List.drop_nil, List.take_nil, List.set_cons_zero, List.set_cons_succ, Nat.zero_add, Nat.add_zero, Nat.reduceAdd, Nat.reduceSub, reduceIte, Nat.reduceEqDiff, E.back, E.backR, E.ix, Res.un, AC.un, AC.un.uns, AV.un, E.un, Option.map_some, Option.map_none, Option.getD_some, List.getElem?_cons_zero, List.getElem?_cons_succ, List.getElem?_nil, crkO, crkR]); rfl)
          refine E_drawT mixed ?_
          refine t_light 0 rfl rfl rfl (L_load rfl (by first | exact d_bp ty_46 | exact ld_rp ty_46 rfl | exact d_ep ty_46)) ?_
          refine t_light 1 rfl rfl rfl (L_load rfl (by first | exact d_bp ty_40 | exact ld_rp ty_40 rfl | exact d_ep ty_40)) ?_
          refine t_call 2 rfl rfl rfl rfl rfl ca_26 (c_laws_toPending p ha1) ?_
          rintro r S ⟨rfl, rfl⟩
          refine t_call 3 rfl rfl rfl rfl rfl ca_29 (c_laws_eqPending p p) ?_
          rintro r S ⟨rfl, rfl⟩
          refine t_old 4 rfl rfl rfl (L_not rfl rfl) ?_
          refine T_done (by kernel_rfl) ?_
          refine E_cond rfl (fun hc55 => ?_) (fun hc55 => ?_)
          · first | (simp at hc55; done) | (simp at hc55; omega)
          · refine E_skip ?_
            refine E_seq ?_
            refine E_region' (L := [0]) rfl ?_
            refine x_pure rfl rfl rfl (L_assign rfl) ?_
            refine EOps_nil ?_
            refine E_seq ?_
            refine e_tidy [0, 1, 2, 3, 4, 5, 6, 7, 8, 9, 10, 11, 12, 20, 25, 45, 50, 55] ?_ (hb := by simp only [E.keepOf, E.get, E.ev, E.cv, E.fill', E.fill, E.slotsOf, Res.sh, AC.sh, AC.sh.shs, AV.sh, E.splice, List.map_cons, List.map_nil, List.cons_append, List.nil_append, List.append_nil, List.length_cons, List.length_nil, List.take_zero, List.drop_zero, List.take_succ_cons, List.drop_succ_cons, List.drop_nil, List.take_nil, List.set_cons_zero, List.set_cons_succ, Nat.zero_add, Nat.add_zero, Nat.reduceAdd, Nat.reduceSub, reduceIte, Nat.reduceEqDiff, E.back, E.backR, E.ix, Res.un, AC.un, AC.un.uns, AV.un, E.un, Option.map_some, Option.map_none, Option.getD_some, List.getElem?_cons_zero, List.getElem?_cons_succ, List.getElem?_nil, crkO, crkR]; rfl) (hR := by (try simp only [E.keepOf, E.get, E.ev, E.cv, E.fill', E.fill, E.slotsOf, Res.sh, AC.sh, AC.sh.shs, AV.sh, E.splice, List.map_cons, List.map_nil, List.cons_append, List.nil_append, List.append_nil, List.length_cons, List.length_nil, List.take_zero, List.drop_zero, List.take_succ_cons, List.drop_succ_cons, List.drop_nil, List.take_nil, List.set_cons_zero, List.set_cons_succ, Nat.zero_add, Nat.add_zero, Nat.reduceAdd, Nat.reduceSub, reduceIte, Nat.reduceEqDiff, E.back, E.backR, E.ix, Res.un, AC.un, AC.un.uns, AV.un, E.un, Option.map_some, Option.map_none, Option.getD_some, List.getElem?_cons_zero, List.getElem?_cons_succ, List.getElem?_nil, crkO, crkR]); rfl)
            refine E_region' (L := [0, 1, 2, 3]) rfl ?_
            refine x_light rfl rfl rfl (L_load rfl (by first | exact d_bp ty_31 | exact ld_rp ty_31 rfl | exact d_ep ty_31)) ?_
            refine x_pure rfl rfl rfl (L_move rfl) ?_
            refine x_frame [9, 10, 11] rfl rfl rfl rfl rfl ca_21 rfl (c_laws_markCracker _ _ _ (1) c _ _ _ rfl rfl rfl ha0 (by omega)) ?_
            rintro r S ⟨r0, S0, ⟨rfl, rfl⟩, rfl, rfl⟩
            refine x_pure rfl rfl rfl (L_assign rfl) ?_
            refine EOps_nil ?_
            refine E_seq ?_
            refine e_tidy [0, 1, 2, 3, 4, 5, 6, 7, 8, 9, 10, 11, 12, 20, 25, 45, 50, 55] ?_ (hb := by simp only [E.keepOf, E.get, E.ev, E.cv, E.fill', E.fill, E.slotsOf, Res.sh, AC.sh, AC.sh.shs, AV.sh, E.splice, List.map_cons, List.map_nil, List.cons_append, List.nil_append, List.append_nil, List.length_cons, List.length_nil, List.take_zero, List.drop_zero, List.take_succ_cons, List.drop_succ_cons, List.drop_nil, List.take_nil, List.set_cons_zero, List.set_cons_succ, Nat.zero_add, Nat.add_zero, Nat.reduceAdd, Nat.reduceSub, reduceIte, Nat.reduceEqDiff, E.back, E.backR, E.ix, Res.un, AC.un, AC.un.uns, AV.un, E.un, Option.map_some, Option.map_none, Option.getD_some, List.getElem?_cons_zero, List.getElem?_cons_succ, List.getElem?_nil, crkO, crkR]; rfl) (hR := by (try simp only [E.keepOf, E.get, E.ev, E.cv, E.fill', E.fill, E.slotsOf, Res.sh, AC.sh, AC.sh.shs, AV.sh, E.splice, List.map_cons, List.map_nil, List.cons_append, List.nil_append, List.append_nil, List.length_cons, List.length_nil, List.take_zero, List.drop_zero, List.take_succ_cons, List.drop_succ_cons, List.drop_nil, List.take_nil, List.set_cons_zero, List.set_cons_succ, Nat.zero_add, Nat.add_zero, Nat.reduceAdd, Nat.reduceSub, reduceIte, Nat.reduceEqDiff, E.back, E.backR, E.ix, Res.un, AC.un, AC.un.uns, AV.un, E.un, Option.map_some, Option.map_none, Option.getD_some, List.getElem?_cons_zero, List.getElem?_cons_succ, List.getElem?_nil, crkO, crkR]); rfl)
            refine E_region' (L := [0, 1, 2, 3]) rfl ?_
            refine x_light rfl rfl rfl (L_load rfl (by first | exact d_bp ty_46 | exact ld_rp ty_46 rfl | exact d_ep ty_46)) ?_
            refine x_pure rfl rfl rfl (L_move rfl) ?_
            refine x_frame [13, 14] rfl rfl rfl rfl rfl ca_30 rfl (c_laws_markPending _ _ (1 + c.vals.length + c.rows.length + 2 * c.piv.length) p _ _ rfl rfl ha1 (by omega)) ?_
            rintro r S ⟨r0, S0, ⟨rfl, rfl⟩, rfl, rfl⟩
            refine x_pure rfl rfl rfl (L_assign rfl) ?_
            refine EOps_nil ?_
            refine E_seq ?_
            refine E_seq ?_
            refine e_tidy [0, 1, 2, 3, 4, 5, 6, 7, 8, 9, 10, 11, 12, 20, 25, 45, 50, 55] ?_ (hb := by simp only [E.keepOf, E.get, E.ev, E.cv, E.fill', E.fill, E.slotsOf, Res.sh, AC.sh, AC.sh.shs, AV.sh, E.splice, List.map_cons, List.map_nil, List.cons_append, List.nil_append, List.append_nil, List.length_cons, List.length_nil, List.take_zero, List.drop_zero, List.take_succ_cons, List.drop_succ_cons, List.drop_nil, List.take_nil, List.set_cons_zero, List.set_cons_succ, Nat.zero_add, Nat.add_zero, Nat.reduceAdd, Nat.reduceSub, reduceIte, Nat.reduceEqDiff, E.back, E.backR, E.ix, Res.un, AC.un, AC.un.uns, AV.un, E.un, Option.map_some, Option.map_none, Option.getD_some, List.getElem?_cons_zero, List.getElem?_cons_succ, List.getElem?_nil, crkO, crkR]; rfl) (hR := by (try simp only [E.keepOf, E.get, E.ev, E.cv, E.fill', E.fill, E.slotsOf, Res.sh, AC.sh, AC.sh.shs, AV.sh, E.splice, List.map_cons, List.map_nil, List.cons_append, List.nil_append, List.append_nil, List.length_cons, List.length_nil, List.take_zero, List.drop_zero, List.take_succ_cons, List.drop_succ_cons, List.drop_nil, List.take_nil, List.set_cons_zero, List.set_cons_succ, Nat.zero_add, Nat.add_zero, Nat.reduceAdd, Nat.reduceSub, reduceIte, Nat.reduceEqDiff, E.back, E.backR, E.ix, Res.un, AC.un, AC.un.uns, AV.un, E.un, Option.map_some, Option.map_none, Option.getD_some, List.getElem?_cons_zero, List.getElem?_cons_succ, List.getElem?_nil, crkO, crkR]); rfl)
            refine E_region' (L := [0, 1, 2, 3, 4, 5, 6, 7]) rfl ?_
            refine x_pure rfl rfl rfl (L_move rfl) ?_
            refine x_pure rfl rfl rfl (L_bin rfl rfl rfl rfl) ?_
            refine x_pure rfl rfl rfl (L_move rfl) ?_
            refine EOps_split 64 (b := _) rfl (fun hg64 => ?_) (fun hg64 => ?_)
            · first | (simp at hg64; done) | (simp at hg64; omega)
            · refine x_pure rfl rfl rfl (L_move rfl) ?_
              refine x_pure rfl rfl rfl (L_move rfl) ?_
              refine x_call rfl rfl rfl rfl rfl ca_63 (c_laws_eqIntS l l) ?_
              rintro r S ⟨rfl, rfl⟩
              refine x_pure rfl rfl rfl (L_not rfl rfl) ?_
              refine x_pure rfl rfl rfl (L_pick rfl rfl) ?_
              refine EOps_nil ?_
              refine E_cond rfl (fun hc69 => ?_) (fun hc69 => ?_)
              · first | (simp at hc69; done) | (simp at hc69; omega)
              · refine E_skip ?_
                refine E_seq ?_
                refine E_region' (L := [0]) rfl ?_
                refine x_pure rfl rfl rfl (L_assign rfl) ?_
                refine EOps_nil ?_
                refine E_seq ?_
                refine e_tidy [0, 1, 2, 3, 4, 5, 6, 7, 8, 9, 10, 11, 12, 13, 20, 25, 45, 50, 55, 69] ?_ (hb := by simp only [E.keepOf, E.get, E.ev, E.cv, E.fill', E.fill, E.slotsOf, Res.sh, AC.sh, AC.sh.shs, AV.sh, E.splice, List.map_cons, List.map_nil, List.cons_append, List.nil_append, List.append_nil, List.length_cons, List.length_nil, List.take_zero, List.drop_zero, List.take_succ_cons, List.drop_succ_cons, List.drop_nil, List.take_nil, List.set_cons_zero, List.set_cons_succ, Nat.zero_add, Nat.add_zero, Nat.reduceAdd, Nat.reduceSub, reduceIte, Nat.reduceEqDiff, E.back, E.backR, E.ix, Res.un, AC.un, AC.un.uns, AV.un, E.un, Option.map_some, Option.map_none, Option.getD_some, List.getElem?_cons_zero, List.getElem?_cons_succ, List.getElem?_nil, crkO, crkR]; rfl) (hR := by (try simp only [E.keepOf, E.get, E.ev, E.cv, E.fill', E.fill, E.slotsOf, Res.sh, AC.sh, AC.sh.shs, AV.sh, E.splice, List.map_cons, List.map_nil, List.cons_append, List.nil_append, List.append_nil, List.length_cons, List.length_nil, List.take_zero, List.drop_zero, List.take_succ_cons, List.drop_succ_cons, List.drop_nil, List.take_nil, List.set_cons_zero, List.set_cons_succ, Nat.zero_add, Nat.add_zero, Nat.reduceAdd, Nat.reduceSub, reduceIte, Nat.reduceEqDiff, E.back, E.backR, E.ix, Res.un, AC.un, AC.un.uns, AV.un, E.un, Option.map_some, Option.map_none, Option.getD_some, List.getElem?_cons_zero, List.getElem?_cons_succ, List.getElem?_nil, crkO, crkR]); rfl)
                refine E_region' (L := [0, 1, 2, 3]) rfl ?_
                refine x_pure rfl rfl rfl (L_move rfl) ?_
                refine x_pure rfl rfl rfl (L_move rfl) ?_
                refine x_frame [16] rfl rfl rfl rfl rfl ca_65 rfl (c_laws_markIntS _ (l.length) (1) l rfl hle0 (by omega)) ?_
                rintro r S ⟨r0, S0, ⟨rfl, rfl⟩, rfl, rfl⟩
                refine x_pure rfl rfl rfl (L_assign rfl) ?_
                refine EOps_nil ?_
                refine E_seq ?_
                refine E_region' (L := [0]) rfl ?_
                refine x_pure rfl rfl rfl (L_assign rfl) ?_
                refine EOps_nil ?_
                refine E_seq ?_
                refine e_tidy [0, 1, 2, 3, 4, 5, 6, 7, 8, 9, 10, 11, 12, 13, 14, 20, 25, 45, 50, 55, 69] ?_ (hb := by simp only [E.keepOf, E.get, E.ev, E.cv, E.fill', E.fill, E.slotsOf, Res.sh, AC.sh, AC.sh.shs, AV.sh, E.splice, List.map_cons, List.map_nil, List.cons_append, List.nil_append, List.append_nil, List.length_cons, List.length_nil, List.take_zero, List.drop_zero, List.take_succ_cons, List.drop_succ_cons, List.drop_nil, List.take_nil, List.set_cons_zero, List.set_cons_succ, Nat.zero_add, Nat.add_zero, Nat.reduceAdd, Nat.reduceSub, reduceIte, Nat.reduceEqDiff, E.back, E.backR, E.ix, Res.un, AC.un, AC.un.uns, AV.un, E.un, Option.map_some, Option.map_none, Option.getD_some, List.getElem?_cons_zero, List.getElem?_cons_succ, List.getElem?_nil, crkO, crkR]; rfl) (hR := by (try simp only [E.keepOf, E.get, E.ev, E.cv, E.fill', E.fill, E.slotsOf, Res.sh, AC.sh, AC.sh.shs, AV.sh, E.splice, List.map_cons, List.map_nil, List.cons_append, List.nil_append, List.append_nil, List.length_cons, List.length_nil, List.take_zero, List.drop_zero, List.take_succ_cons, List.drop_succ_cons, List.drop_nil, List.take_nil, List.set_cons_zero, List.set_cons_succ, Nat.zero_add, Nat.add_zero, Nat.reduceAdd, Nat.reduceSub, reduceIte, Nat.reduceEqDiff, E.back, E.backR, E.ix, Res.un, AC.un, AC.un.uns, AV.un, E.un, Option.map_some, Option.map_none, Option.getD_some, List.getElem?_cons_zero, List.getElem?_cons_succ, List.getElem?_nil, crkO, crkR]); rfl)
                refine E_region' (L := [0, 1, 2, 3]) rfl ?_
                refine x_pure rfl rfl rfl (L_move rfl) ?_
                refine x_pure rfl rfl rfl (L_move rfl) ?_
                refine x_call rfl rfl rfl rfl rfl ca_72 (c_laws_heldIntS (l.length) (1) hle0 (by omega)) ?_ (ha := by exact cons_eq (lend_whole rfl (by simp [ints_len, seqF_len])) (cons_eq rfl rfl))
                rintro r S ⟨rfl, rfl⟩
                refine x_pure rfl rfl rfl (L_assign rfl) ?_
                refine EOps_nil ?_
                refine E_seq ?_
                refine E_seq ?_
                refine E_region' (L := [0, 1]) rfl ?_
                refine x_pure rfl rfl rfl (L_move rfl) ?_
                refine x_pure rfl rfl rfl (L_bin rfl rfl rfl rfl) ?_
                refine EOps_nil ?_
                refine E_cond rfl (fun hc77 => ?_) (fun hc77 => ?_)
                · first | (simp at hc77; done) | (simp at hc77; omega)
                · refine E_skip ?_
                  refine E_seq ?_
                  refine E_seq ?_
                  refine E_region' (L := [0, 1, 2]) rfl ?_
                  refine x_pure rfl rfl rfl (L_move rfl) ?_
                  refine x_pure rfl rfl rfl (L_move rfl) ?_
                  refine x_pure rfl rfl rfl (L_bin rfl rfl rfl rfl) ?_
                  refine EOps_nil ?_
                  refine E_cond rfl (fun hc80 => ?_) (fun hc80 => ?_)
                  · first | (simp at hc80; done) | (simp at hc80; omega)
                  · refine E_skip ?_
                    refine E_seq ?_
                    refine e_tidy [0, 1, 2, 3, 4, 5, 6, 7, 8, 9, 10, 11, 12, 13, 14, 20, 25, 45, 50, 55, 69, 77, 80] ?_ (hb := by simp only [E.keepOf, E.get, E.ev, E.cv, E.fill', E.fill, E.slotsOf, Res.sh, AC.sh, AC.sh.shs, AV.sh, E.splice, List.map_cons, List.map_nil, List.cons_append, List.nil_append, List.append_nil, List.length_cons, List.length_nil, List.take_zero, List.drop_zero, List.take_succ_cons, List.drop_succ_cons, List.drop_nil, List.take_nil, List.set_cons_zero, List.set_cons_succ, Nat.zero_add, Nat.add_zero, Nat.reduceAdd, Nat.reduceSub, reduceIte, Nat.reduceEqDiff, E.back, E.backR, E.ix, Res.un, AC.un, AC.un.uns, AV.un, E.un, Option.map_some, Option.map_none, Option.getD_some, List.getElem?_cons_zero, List.getElem?_cons_succ, List.getElem?_nil, crkO, crkR]; rfl) (hR := by (try simp only [E.keepOf, E.get, E.ev, E.cv, E.fill', E.fill, E.slotsOf, Res.sh, AC.sh, AC.sh.shs, AV.sh, E.splice, List.map_cons, List.map_nil, List.cons_append, List.nil_append, List.append_nil, List.length_cons, List.length_nil, List.take_zero, List.drop_zero, List.take_succ_cons, List.drop_succ_cons, List.drop_nil, List.take_nil, List.set_cons_zero, List.set_cons_succ, Nat.zero_add, Nat.add_zero, Nat.reduceAdd, Nat.reduceSub, reduceIte, Nat.reduceEqDiff, E.back, E.backR, E.ix, Res.un, AC.un, AC.un.uns, AV.un, E.un, Option.map_some, Option.map_none, Option.getD_some, List.getElem?_cons_zero, List.getElem?_cons_succ, List.getElem?_nil, crkO, crkR]); rfl)
                    refine E_drawT mixed ?_
                    refine t_light 0 rfl rfl rfl (L_load rfl (by first | exact d_bp ty_25 | exact ld_rp ty_25 rfl | exact d_ep ty_25)) ?_
                    refine t_light 2 rfl rfl rfl (L_load rfl (by first | exact d_bp ty_40 | exact ld_rp ty_40 rfl | exact d_ep ty_40)) ?_
                    refine t_light 4 rfl rfl rfl (L_load rfl (by first | exact d_bp ty_78 | exact ld_rp ty_78 rfl | exact d_ep ty_78)) ?_
                    refine t_fresh 2 [(⟨none, 1, 82, 0⟩, _), (⟨none, 3, 84, 0⟩, _), (⟨none, 5, 86, 0⟩, _)] [(82, .any), (84, .any), (86, .any)] [1, 3, 5] ⟨.one rfl rfl rfl (by decide) (f_call rfl rfl ca_17 (c_laws_toCracker c ha0)), .one rfl rfl rfl (by decide) (f_call rfl rfl ca_26 (c_laws_toPending p ha1)), .one rfl rfl rfl (by decide) (f_call rfl rfl ca_55 (c_laws_toRange r.1 r.2)), trivial⟩ ?_
                    refine fk_cons ?_
                    rintro r S ⟨rfl, rfl⟩
                    refine fk_cons ?_
                    rintro r S ⟨rfl, rfl⟩
                    refine fk_cons ?_
                    rintro r S ⟨rfl, rfl⟩
                    refine fk_nil ?_
                    refine t_call 6 rfl rfl rfl rfl rfl ca_71 (hg) ?_
                    rintro r S ⟨rfl, rfl⟩
                    refine t_pure 7 rfl rfl rfl (L_assign rfl) ?_
                    refine T_done (by kernel_rfl) ?_
                    refine E_seq ?_
                    refine E_seq ?_
                    refine e_tidy [0, 1, 2, 3, 4, 5, 6, 7, 8, 9, 10, 11, 12, 13, 14, 15, 20, 25, 45, 50, 55, 69, 77, 80] ?_ (hb := by simp only [E.keepOf, E.get, E.ev, E.cv, E.fill', E.fill, E.slotsOf, Res.sh, AC.sh, AC.sh.shs, AV.sh, E.splice, List.map_cons, List.map_nil, List.cons_append, List.nil_append, List.append_nil, List.length_cons, List.length_nil, List.take_zero, List.drop_zero, List.take_succ_cons, List.drop_succ_cons, List.drop_nil, List.take_nil, List.set_cons_zero, List.set_cons_succ, Nat.zero_add, Nat.add_zero, Nat.reduceAdd, Nat.reduceSub, reduceIte, Nat.reduceEqDiff, E.back, E.backR, E.ix, Res.un, AC.un, AC.un.uns, AV.un, E.un, Option.map_some, Option.map_none, Option.getD_some, List.getElem?_cons_zero, List.getElem?_cons_succ, List.getElem?_nil, crkO, crkR]; rfl) (hR := by (try simp only [E.keepOf, E.get, E.ev, E.cv, E.fill', E.fill, E.slotsOf, Res.sh, AC.sh, AC.sh.shs, AV.sh, E.splice, List.map_cons, List.map_nil, List.cons_append, List.nil_append, List.append_nil, List.length_cons, List.length_nil, List.take_zero, List.drop_zero, List.take_succ_cons, List.drop_succ_cons, List.drop_nil, List.take_nil, List.set_cons_zero, List.set_cons_succ, Nat.zero_add, Nat.add_zero, Nat.reduceAdd, Nat.reduceSub, reduceIte, Nat.reduceEqDiff, E.back, E.backR, E.ix, Res.un, AC.un, AC.un.uns, AV.un, E.un, Option.map_some, Option.map_none, Option.getD_some, List.getElem?_cons_zero, List.getElem?_cons_succ, List.getElem?_nil, crkO, crkR]); rfl)
                    refine E_region' (L := [0, 1, 2, 3]) rfl ?_
                    refine x_pure rfl rfl rfl (L_move rfl) ?_
                    refine x_pure rfl rfl rfl (L_move rfl) ?_
                    refine x_call rfl rfl rfl rfl rfl ca_63 (c_laws_eqIntS l l) ?_
                    rintro r S ⟨rfl, rfl⟩
                    refine x_pure rfl rfl rfl (L_not rfl rfl) ?_
                    refine EOps_nil ?_
                    refine E_cond rfl (fun hc91 => ?_) (fun hc91 => ?_)
                    · first | (simp at hc91; done) | (simp at hc91; omega)
                    · refine E_skip ?_
                      refine E_seq ?_
                      refine E_region' (L := [0]) rfl ?_
                      refine x_pure rfl rfl rfl (L_assign rfl) ?_
                      refine EOps_nil ?_
                      refine E_seq ?_
                      refine e_tidy [0, 1, 2, 3, 4, 5, 6, 7, 8, 9, 10, 11, 12, 13, 14, 15, 20, 25, 45, 50, 55, 69, 77, 80, 91] ?_ (hb := by simp only [E.keepOf, E.get, E.ev, E.cv, E.fill', E.fill, E.slotsOf, Res.sh, AC.sh, AC.sh.shs, AV.sh, E.splice, List.map_cons, List.map_nil, List.cons_append, List.nil_append, List.append_nil, List.length_cons, List.length_nil, List.take_zero, List.drop_zero, List.take_succ_cons, List.drop_succ_cons, List.drop_nil, List.take_nil, List.set_cons_zero, List.set_cons_succ, Nat.zero_add, Nat.add_zero, Nat.reduceAdd, Nat.reduceSub, reduceIte, Nat.reduceEqDiff, E.back, E.backR, E.ix, Res.un, AC.un, AC.un.uns, AV.un, E.un, Option.map_some, Option.map_none, Option.getD_some, List.getElem?_cons_zero, List.getElem?_cons_succ, List.getElem?_nil, crkO, crkR]; rfl) (hR := by (try simp only [E.keepOf, E.get, E.ev, E.cv, E.fill', E.fill, E.slotsOf, Res.sh, AC.sh, AC.sh.shs, AV.sh, E.splice, List.map_cons, List.map_nil, List.cons_append, List.nil_append, List.append_nil, List.length_cons, List.length_nil, List.take_zero, List.drop_zero, List.take_succ_cons, List.drop_succ_cons, List.drop_nil, List.take_nil, List.set_cons_zero, List.set_cons_succ, Nat.zero_add, Nat.add_zero, Nat.reduceAdd, Nat.reduceSub, reduceIte, Nat.reduceEqDiff, E.back, E.backR, E.ix, Res.un, AC.un, AC.un.uns, AV.un, E.un, Option.map_some, Option.map_none, Option.getD_some, List.getElem?_cons_zero, List.getElem?_cons_succ, List.getElem?_nil, crkO, crkR]); rfl)
                      refine E_region' (L := [0, 1, 2, 3]) rfl ?_
                      refine x_pure rfl rfl rfl (L_move rfl) ?_
                      refine x_pure rfl rfl rfl (L_move rfl) ?_
                      refine x_call rfl rfl rfl rfl rfl ca_72 (c_laws_heldIntS (l.length) (1) hle0 (by omega)) ?_ (ha := by exact cons_eq (lend_whole rfl (by simp [ints_len, seqF_len])) (cons_eq rfl rfl))
                      rintro r S ⟨rfl, rfl⟩
                      refine x_pure rfl rfl rfl (L_assign rfl) ?_
                      refine EOps_nil ?_
                      refine E_seq ?_
                      refine E_seq ?_
                      refine E_region' (L := [0, 1]) rfl ?_
                      refine x_pure rfl rfl rfl (L_move rfl) ?_
                      refine x_pure rfl rfl rfl (L_bin rfl rfl rfl rfl) ?_
                      refine EOps_nil ?_
                      refine E_cond rfl (fun hc96 => ?_) (fun hc96 => ?_)
                      · first | (simp at hc96; done) | (simp at hc96; omega)
                      · refine E_skip ?_
                        refine E_seq ?_
                        refine E_seq ?_
                        refine E_region' (L := [0, 1, 2]) rfl ?_
                        refine x_pure rfl rfl rfl (L_move rfl) ?_
                        refine x_pure rfl rfl rfl (L_move rfl) ?_
                        refine x_pure rfl rfl rfl (L_bin rfl rfl rfl rfl) ?_
                        refine EOps_nil ?_
                        refine E_cond rfl (fun hc99 => ?_) (fun hc99 => ?_)
                        · first | (simp at hc99; done) | (simp at hc99; omega)
                        · refine E_skip ?_
                          refine E_seq ?_
                          refine E_region' (L := [0]) rfl ?_
                          refine x_pure rfl rfl rfl (L_assign rfl) ?_
                          refine EOps_nil ?_
                          refine E_ret ?_
                          refine ⟨_, [], rfl, rfl, ?_, rfl⟩
                          simp [AV.ren, ren_sc, ren_ro, AC.ren, AC.ren.rens, ix, rv1, E.get, E.ev, E.cv, E.fill', E.fill, E.slotsOf, *]

end Go.Proofs.Ytkaikajjhhnifaa.E
