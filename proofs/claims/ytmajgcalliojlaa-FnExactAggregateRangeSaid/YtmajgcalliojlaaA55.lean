/- Walks through functions, by program out of the session's annotations. -/
import Derived.Test.YtmajgcalliojlaaA52
import Derived.Test.YtmajgcalliojlaaE35
namespace Go.Proofs.Ytmajgcalliojlaa.E
open Go Go.RowKit Go.Proofs
set_option linter.unusedVariables false
set_option linter.unusedSimpArgs false

set_option maxRecDepth 20000 in
set_option maxHeartbeats 4000000 in
theorem c_spec_AggregateRange (c : Crk) (r : Int × Int) (hb : c.vals.length ≤ 1048576 ∧ c.rows.length ≤ 1048576 ∧ c.piv.length ≤ 1048576) : EFn Try.prog 15 [.agg (crkC c), .agg [.sc (.int .i64 r.1), .sc (.int .i64 r.2)]] [] (fun y S => y = .tup [(true, crkO 0 (selC c r)), (true, aggC (agR c r))] ∧ S = crkR 3 126 (selC c r)) := by
  refine E_fn Try.func15 rfl (Nat.le_of_ble_eq_true rfl) ?_
  have hin := sel_in (c := c) (r := r)
  have hnn := sel_nn (c := c) (r := r)
  have hag : agR c r = if selK c r = true then aggOf (cutV (selC c r).vals (selLo c r) (selHi c r)) else (0, 0, 0, 0) := rfl
  generalize agR c r = ag at *
  refine E_seq ?_
  refine E_region' (L := [0, 1, 2, 3]) rfl ?_
  refine x_box rfl rfl rfl rfl rfl ?_
  refine x_box rfl rfl rfl rfl rfl ?_
  refine x_alloc rfl rfl rfl rfl za_31 ?_
  refine x_alloc rfl rfl rfl rfl za_33 ?_
  refine EOps_nil ?_
  refine E_seq ?_
  refine e_tidy [0, 1, 2, 3, 4, 5] ?_ (hb := by simp only [E.keepOf, E.get, E.ev, E.cv, E.fill', E.fill, E.slotsOf, Res.sh, AC.sh, AC.sh.shs, AV.sh, E.splice, List.map_cons, List.map_nil, List.cons_append, List.nil_append, List.append_nil, List.length_cons, List.length_nil, List.take_zero, List.drop_zero, List.take_succ_cons, List.drop_succ_cons, List.drop_nil, List.take_nil, List.set_cons_zero, List.set_cons_succ, Nat.zero_add, Nat.add_zero, Nat.reduceAdd, Nat.reduceSub, reduceIte, Nat.reduceEqDiff, E.back, E.backR, E.ix, Res.un, AC.un, AC.un.uns, AV.un, E.un, Option.map_some, Option.map_none, Option.getD_some, List.getElem?_cons_zero, List.getElem?_cons_succ, List.getElem?_nil, crkR, crkO, aggC]; rfl) (hR := by (try simp only [E.keepOf, E.get, E.ev, E.cv, E.fill', E.fill, E.slotsOf, Res.sh, AC.sh, AC.sh.shs, AV.sh, E.splice, List.map_cons, List.map_nil, List.cons_append, List.nil_append, List.append_nil, List.length_cons, List.length_nil, List.take_zero, List.drop_zero, List.take_succ_cons, List.drop_succ_cons, List.drop_nil, List.take_nil, List.set_cons_zero, List.set_cons_succ, Nat.zero_add, Nat.add_zero, Nat.reduceAdd, Nat.reduceSub, reduceIte, Nat.reduceEqDiff, E.back, E.backR, E.ix, Res.un, AC.un, AC.un.uns, AV.un, E.un, Option.map_some, Option.map_none, Option.getD_some, List.getElem?_cons_zero, List.getElem?_cons_succ, List.getElem?_nil, crkR, crkO, aggC]); rfl)
  refine E_region' (L := [0, 1, 2, 3, 4, 5, 6, 7, 8, 9, 10, 11, 12]) rfl ?_
  refine x_light rfl rfl rfl (L_load rfl (by first | exact d_bp ty_31 | exact ld_rp ty_31 rfl | exact d_ep ty_31)) ?_
  refine x_light rfl rfl rfl (L_load rfl (by first | exact d_bp ty_37 | exact ld_rp ty_37 rfl | exact d_ep ty_37)) ?_
  refine x_call rfl rfl rfl rfl rfl ca_56 (c_spec_SelectRange c r hb) ?_
  rintro r S ⟨rfl, rfl⟩
  generalize selC c r = q at *
  generalize selLo c r = lo at *
  generalize selHi c r = hi at *
  generalize selN c r = nn at *
  obtain ⟨a, rfl⟩ : ∃ a : Nat, lo = a := ⟨_, (Int.toNat_of_nonneg hnn.1).symm⟩
  obtain ⟨b, rfl⟩ : ∃ b : Nat, hi = b := ⟨_, (Int.toNat_of_nonneg hnn.2).symm⟩
  refine x_pure rfl rfl rfl (L_move rfl) ?_
  refine x_pure rfl rfl rfl (L_extract rfl rfl) ?_
  refine x_pure rfl rfl rfl (L_extract rfl rfl) ?_
  refine x_pure rfl rfl rfl (L_extract rfl rfl) ?_
  refine x_pure rfl rfl rfl (L_extract rfl rfl) ?_
  refine x_alloc rfl rfl rfl rfl za_31 ?_
  refine EOps_go rfl rfl (EOp_store rfl rfl rfl (by first | exact s_bp ty_31 | exact s_ep ty_31) ?_)
  refine x_pure rfl rfl rfl (L_assign rfl) ?_
  refine x_pure rfl rfl rfl (L_assign rfl) ?_
  refine x_pure rfl rfl rfl (L_assign rfl) ?_
  refine EOps_nil ?_
  refine E_seq ?_
  refine E_seq ?_
  refine e_tidy [0, 1, 2, 3, 4, 5, 6, 7, 8] ?_ (hb := by simp only [E.keepOf, E.get, E.ev, E.cv, E.fill', E.fill, E.slotsOf, Res.sh, AC.sh, AC.sh.shs, AV.sh, E.splice, List.map_cons, List.map_nil, List.cons_append, List.nil_append, List.append_nil, List.length_cons, List.length_nil, List.take_zero, List.drop_zero, List.take_succ_cons, List.drop_succ_cons, List.drop_nil, List.take_nil, List.set_cons_zero, List.set_cons_succ, Nat.zero_add, Nat.add_zero, Nat.reduceAdd, Nat.reduceSub, reduceIte, Nat.reduceEqDiff, E.back, E.backR, E.ix, Res.un, AC.un, AC.un.uns, AV.un, E.un, Option.map_some, Option.map_none, Option.getD_some, List.getElem?_cons_zero, List.getElem?_cons_succ, List.getElem?_nil, crkR, crkO, aggC]; rfl) (hR := by (try simp only [E.keepOf, E.get, E.ev, E.cv, E.fill', E.fill, E.slotsOf, Res.sh, AC.sh, AC.sh.shs, AV.sh, E.splice, List.map_cons, List.map_nil, List.cons_append, List.nil_append, List.append_nil, List.length_cons, List.length_nil, List.take_zero, List.drop_zero, List.take_succ_cons, List.drop_succ_cons, List.drop_nil, List.take_nil, List.set_cons_zero, List.set_cons_succ, Nat.zero_add, Nat.add_zero, Nat.reduceAdd, Nat.reduceSub, reduceIte, Nat.reduceEqDiff, E.back, E.backR, E.ix, Res.un, AC.un, AC.un.uns, AV.un, E.un, Option.map_some, Option.map_none, Option.getD_some, List.getElem?_cons_zero, List.getElem?_cons_succ, List.getElem?_nil, crkR, crkO, aggC]); rfl)
  refine E_region' (L := [0, 1, 2, 3, 4, 5, 6, 7]) rfl ?_
  refine x_light rfl rfl rfl (L_load rfl (by first | exact d_bp ty_31 | exact ld_rp ty_31 rfl | exact d_ep ty_31)) ?_
  refine x_call rfl rfl rfl rfl rfl ca_57 (c_spec_IsCracker c) ?_
  rintro r S ⟨rfl, rfl⟩
  refine x_pure rfl rfl rfl (L_not rfl rfl) ?_
  refine x_pure rfl rfl rfl (L_move rfl) ?_
  refine EOps_split 21 (b := _) rfl (fun hg21 => ?_) (fun hg21 => ?_)
  · refine x_skip rfl rfl rfl ?_
    refine x_skip rfl rfl rfl ?_
    refine x_skip rfl rfl rfl ?_
    refine x_pure rfl rfl rfl (L_pick rfl rfl) ?_
    refine EOps_nil ?_
    refine E_cond rfl (fun hc25 => ?_) (fun hc25 => ?_)
    · have hk : selK c r = false := by
        cases hk : selK c r
        · rfl
        · exfalso
          have hcv : isCrk c = true ∧ isRng r = true := by simpa [selK] using hk
          first
            | (rw [hcv.1] at hg21; exact Bool.noConfusion hg21)
            | (rw [hcv.2] at hc25; exact Bool.noConfusion hc25)
      rw [hk] at hag
      obtain rfl : ag = (0, 0, 0, 0) := hag
      refine E_seq ?_
      refine E_region' (L := [0, 1, 2, 3]) rfl ?_
      refine x_light rfl rfl rfl (L_load rfl (by first | exact d_bp ty_31 | exact ld_rp ty_31 rfl | exact d_ep ty_31)) ?_
      refine x_pure rfl rfl rfl (L_build rfl bd_33 rfl rfl) ?_
      refine EOps_go rfl rfl (EOp_store rfl rfl rfl (by first | exact s_bp ty_31 | exact s_ep ty_31) ?_)
      refine EOps_go rfl rfl (EOp_store rfl rfl rfl (by first | exact s_bp ty_33 | exact s_ep ty_33) ?_)
      refine EOps_nil ?_
      refine E_ret ?_
      exact ⟨_, [4, 5, 6], rfl, rfl, rfl, rfl⟩
    · exact Bool.noConfusion (hc25 : true = false)
  · refine x_light rfl rfl rfl (L_load rfl (by first | exact d_bp ty_37 | exact ld_rp ty_37 rfl | exact d_ep ty_37)) ?_
    refine x_call rfl rfl rfl rfl rfl ca_58 (c_spec_IsRange r) ?_
    rintro r S ⟨rfl, rfl⟩
    refine x_pure rfl rfl rfl (L_not rfl rfl) ?_
    refine x_pure rfl rfl rfl (L_pick rfl rfl) ?_
    refine EOps_nil ?_
    refine E_cond rfl (fun hc25 => ?_) (fun hc25 => ?_)
    · have hk : selK c r = false := by
        cases hk : selK c r
        · rfl
        · exfalso
          have hcv : isCrk c = true ∧ isRng r = true := by simpa [selK] using hk
          first
            | (rw [hcv.1] at hg21; exact Bool.noConfusion hg21)
            | (rw [hcv.2] at hc25; exact Bool.noConfusion hc25)
      rw [hk] at hag
      obtain rfl : ag = (0, 0, 0, 0) := hag
      refine E_seq ?_
      refine E_region' (L := [0, 1, 2, 3]) rfl ?_
      refine x_light rfl rfl rfl (L_load rfl (by first | exact d_bp ty_31 | exact ld_rp ty_31 rfl | exact d_ep ty_31)) ?_
      refine x_pure rfl rfl rfl (L_build rfl bd_33 rfl rfl) ?_
      refine EOps_go rfl rfl (EOp_store rfl rfl rfl (by first | exact s_bp ty_31 | exact s_ep ty_31) ?_)
      refine EOps_go rfl rfl (EOp_store rfl rfl rfl (by first | exact s_bp ty_33 | exact s_ep ty_33) ?_)
      refine EOps_nil ?_
      refine E_ret ?_
      exact ⟨_, [4, 5, 6], rfl, rfl, rfl, rfl⟩
    · have hcv : isCrk c = true ∧ isRng r = true := ⟨by simpa using hg21, by simpa using hc25⟩
      have hk : selK c r = true := by simp [selK, hcv.1, hcv.2]
      obtain ⟨hqc, h0, hab, hbn, _⟩ := hin hk
      rw [if_pos hk] at hag
      subst hag
      refine E_skip ?_
      refine E_seq ?_
      refine e_tidy [0, 1, 2, 3, 4, 5, 6, 7, 8, 25] ?_ (hb := by simp only [E.keepOf, E.get, E.ev, E.cv, E.fill', E.fill, E.slotsOf, Res.sh, AC.sh, AC.sh.shs, AV.sh, E.splice, List.map_cons, List.map_nil, List.cons_append, List.nil_append, List.append_nil, List.length_cons, List.length_nil, List.take_zero, List.drop_zero, List.take_succ_cons, List.drop_succ_cons, List.drop_nil, List.take_nil, List.set_cons_zero, List.set_cons_succ, Nat.zero_add, Nat.add_zero, Nat.reduceAdd, Nat.reduceSub, reduceIte, Nat.reduceEqDiff, E.back, E.backR, E.ix, Res.un, AC.un, AC.un.uns, AV.un, E.un, Option.map_some, Option.map_none, Option.getD_some, List.getElem?_cons_zero, List.getElem?_cons_succ, List.getElem?_nil, crkR, crkO, aggC]; rfl) (hR := by (try simp only [E.keepOf, E.get, E.ev, E.cv, E.fill', E.fill, E.slotsOf, Res.sh, AC.sh, AC.sh.shs, AV.sh, E.splice, List.map_cons, List.map_nil, List.cons_append, List.nil_append, List.append_nil, List.length_cons, List.length_nil, List.take_zero, List.drop_zero, List.take_succ_cons, List.drop_succ_cons, List.drop_nil, List.take_nil, List.set_cons_zero, List.set_cons_succ, Nat.zero_add, Nat.add_zero, Nat.reduceAdd, Nat.reduceSub, reduceIte, Nat.reduceEqDiff, E.back, E.backR, E.ix, Res.un, AC.un, AC.un.uns, AV.un, E.un, Option.map_some, Option.map_none, Option.getD_some, List.getElem?_cons_zero, List.getElem?_cons_succ, List.getElem?_nil, crkR, crkO, aggC]); rfl)
      refine E_drawT mixed ?_
      refine t_light 0 rfl rfl rfl (L_load rfl (by first | exact d_bp ty_31 | exact ld_rp ty_31 rfl | exact d_ep ty_31)) ?_
      refine t_old 1 rfl rfl rfl (l_field rfl fo_31_0) ?_
      refine t_light 2 rfl rfl rfl (L_load rfl (by first | exact d_bp ty_22 | exact ld_rp ty_22 rfl | exact d_ep ty_22)) ?_
      refine t_old 3 rfl rfl rfl (L_move rfl) ?_
      refine t_old 4 rfl rfl rfl (L_move rfl) ?_
      refine t_old 5 rfl rfl rfl (by first | exact L_slice_ro (l := a) (h := b) rfl sl_22 ty_3 rfl rfl rfl (by first | omega | (simp [ints_len, pairs_len, quads_len, quints_len, bools_len]; omega) | (simp [ints_len, pairs_len, quads_len, quints_len, bools_len] at *; omega)) (by first | omega | (simp [ints_len, pairs_len, quads_len, quints_len, bools_len]; omega) | (simp [ints_len, pairs_len, quads_len, quints_len, bools_len] at *; omega)) (by first | exact fun r hr => (ints_row _ r hr).1 | exact fun r hr => (pairs_row _ r hr).1 | exact fun r hr => (quads_row _ r hr).1 | exact fun r hr => (quints_row _ r hr).1 | exact fun r hr => (bools_row _ r hr).1) | exact L_slice_sl (l := a) (h := b) rfl sl_22 ty_3 rfl (by first | rfl | assumption) (by first | assumption | exact ints_len _ | exact pairs_len _ | exact quads_len _ | exact quints_len _ | exact bools_len _ | (simp [ints_len, bools_len, pairs_len, quads_len, quints_len, part_len, *]; done) | (simp [ints_len, bools_len, pairs_len, quads_len, quints_len]; omega) | rfl) rfl rfl (by first | omega | (simp [ints_len, pairs_len, quads_len, quints_len, bools_len]; omega) | (simp [ints_len, pairs_len, quads_len, quints_len, bools_len] at *; omega)) (by first | omega | (simp [ints_len, pairs_len, quads_len, quints_len, bools_len]; omega) | (simp [ints_len, pairs_len, quads_len, quints_len, bools_len] at *; omega))) ?_
      refine t_call 6 rfl rfl rfl rfl rfl ca_59 (c_spec_AggregateOf (cutV q.vals a b)) ?_ (ha := by exact cons_eq (lend_cutI rfl rfl) rfl)
      rintro r S ⟨rfl, rfl⟩
      refine t_turn 7 rfl rfl (EOp_store rfl rfl rfl (by first | exact s_bp ty_31 | exact s_ep ty_31) ?_)
      refine t_turn 8 rfl rfl (EOp_store rfl rfl rfl (by first | exact s_bp ty_33 | exact s_ep ty_33) ?_)
      refine T_done (by kernel_rfl) ?_
      refine E_ret ?_
      exact ⟨_, [4, 5, 6], rfl, rfl, rfl, rfl⟩

set_option maxRecDepth 20000 in
set_option maxHeartbeats 4000000 in
theorem c_impl_AggregateRange (c : Crk) (r : Int × Int) (hb : c.vals.length ≤ 1048576 ∧ c.rows.length ≤ 1048576 ∧ c.piv.length ≤ 1048576) : EFn Try.prog 18 [.agg (crkC c), .agg [.sc (.int .i64 r.1), .sc (.int .i64 r.2)]] [] (fun y S => y = .tup [(true, crkO 0 (selC c r)), (true, aggC (agR c r))] ∧ S = crkR 3 126 (selC c r)) := by
  refine E_fn Try.func18 rfl (Nat.le_of_ble_eq_true rfl) ?_
  have hin := sel_in (c := c) (r := r)
  have hnn := sel_nn (c := c) (r := r)
  have hag : agR c r = if selK c r = true then aggOf (cutV (selC c r).vals (selLo c r) (selHi c r)) else (0, 0, 0, 0) := rfl
  generalize agR c r = ag at *
  refine E_seq ?_
  refine E_region' (L := [0, 1, 2, 3]) rfl ?_
  refine x_box rfl rfl rfl rfl rfl ?_
  refine x_box rfl rfl rfl rfl rfl ?_
  refine x_alloc rfl rfl rfl rfl za_31 ?_
  refine x_alloc rfl rfl rfl rfl za_33 ?_
  refine EOps_nil ?_
  refine E_seq ?_
  refine e_tidy [0, 1, 2, 3, 4, 5] ?_ (hb := by simp only [E.keepOf, E.get, E.ev, E.cv, E.fill', E.fill, E.slotsOf, Res.sh, AC.sh, AC.sh.shs, AV.sh, E.splice, List.map_cons, List.map_nil, List.cons_append, List.nil_append, List.append_nil, List.length_cons, List.length_nil, List.take_zero, List.drop_zero, List.take_succ_cons, List.drop_succ_cons, List.drop_nil, List.take_nil, List.set_cons_zero, List.set_cons_succ, Nat.zero_add, Nat.add_zero, Nat.reduceAdd, Nat.reduceSub, reduceIte, Nat.reduceEqDiff, E.back, E.backR, E.ix, Res.un, AC.un, AC.un.uns, AV.un, E.un, Option.map_some, Option.map_none, Option.getD_some, List.getElem?_cons_zero, List.getElem?_cons_succ, List.getElem?_nil, crkR, crkO, aggC]; rfl) (hR := by (try simp only [E.keepOf, E.get, E.ev, E.cv, E.fill', E.fill, E.slotsOf, Res.sh, AC.sh, AC.sh.shs, AV.sh, E.splice, List.map_cons, List.map_nil, List.cons_append, List.nil_append, List.append_nil, List.length_cons, List.length_nil, List.take_zero, List.drop_zero, List.take_succ_cons, List.drop_succ_cons, List.drop_nil, List.take_nil, List.set_cons_zero, List.set_cons_succ, Nat.zero_add, Nat.add_zero, Nat.reduceAdd, Nat.reduceSub, reduceIte, Nat.reduceEqDiff, E.back, E.backR, E.ix, Res.un, AC.un, AC.un.uns, AV.un, E.un, Option.map_some, Option.map_none, Option.getD_some, List.getElem?_cons_zero, List.getElem?_cons_succ, List.getElem?_nil, crkR, crkO, aggC]); rfl)
  refine E_region' (L := [0, 1, 2, 3, 4, 5, 6, 7, 8, 9, 10, 11, 12]) rfl ?_
  refine x_light rfl rfl rfl (L_load rfl (by first | exact d_bp ty_31 | exact ld_rp ty_31 rfl | exact d_ep ty_31)) ?_
  refine x_light rfl rfl rfl (L_load rfl (by first | exact d_bp ty_37 | exact ld_rp ty_37 rfl | exact d_ep ty_37)) ?_
  refine x_call rfl rfl rfl rfl rfl ca_61 (c_impl_SelectRange c r hb) ?_
  rintro r S ⟨rfl, rfl⟩
  generalize selC c r = q at *
  generalize selLo c r = lo at *
  generalize selHi c r = hi at *
  generalize selN c r = nn at *
  obtain ⟨a, rfl⟩ : ∃ a : Nat, lo = a := ⟨_, (Int.toNat_of_nonneg hnn.1).symm⟩
  obtain ⟨b, rfl⟩ : ∃ b : Nat, hi = b := ⟨_, (Int.toNat_of_nonneg hnn.2).symm⟩
  refine x_pure rfl rfl rfl (L_move rfl) ?_
  refine x_pure rfl rfl rfl (L_extract rfl rfl) ?_
  refine x_pure rfl rfl rfl (L_extract rfl rfl) ?_
  refine x_pure rfl rfl rfl (L_extract rfl rfl) ?_
  refine x_pure rfl rfl rfl (L_extract rfl rfl) ?_
  refine x_alloc rfl rfl rfl rfl za_31 ?_
  refine EOps_go rfl rfl (EOp_store rfl rfl rfl (by first | exact s_bp ty_31 | exact s_ep ty_31) ?_)
  refine x_pure rfl rfl rfl (L_assign rfl) ?_
  refine x_pure rfl rfl rfl (L_assign rfl) ?_
  refine x_pure rfl rfl rfl (L_assign rfl) ?_
  refine EOps_nil ?_
  refine E_seq ?_
  refine E_seq ?_
  refine e_tidy [0, 1, 2, 3, 4, 5, 6, 7, 8] ?_ (hb := by simp only [E.keepOf, E.get, E.ev, E.cv, E.fill', E.fill, E.slotsOf, Res.sh, AC.sh, AC.sh.shs, AV.sh, E.splice, List.map_cons, List.map_nil, List.cons_append, List.nil_append, List.append_nil, List.length_cons, List.length_nil, List.take_zero, List.drop_zero, List.take_succ_cons, List.drop_succ_cons, List.drop_nil, List.take_nil, List.set_cons_zero, List.set_cons_succ, Nat.zero_add, Nat.add_zero, Nat.reduceAdd, Nat.reduceSub, reduceIte, Nat.reduceEqDiff, E.back, E.backR, E.ix, Res.un, AC.un, AC.un.uns, AV.un, E.un, Option.map_some, Option.map_none, Option.getD_some, List.getElem?_cons_zero, List.getElem?_cons_succ, List.getElem?_nil, crkR, crkO, aggC]; rfl) (hR := by (try simp only [E.keepOf, E.get, E.ev, E.cv, E.fill', E.fill, E.slotsOf, Res.sh, AC.sh, AC.sh.shs, AV.sh, E.splice, List.map_cons, List.map_nil, List.cons_append, List.nil_append, List.append_nil, List.length_cons, List.length_nil, List.take_zero, List.drop_zero, List.take_succ_cons, List.drop_succ_cons, List.drop_nil, List.take_nil, List.set_cons_zero, List.set_cons_succ, Nat.zero_add, Nat.add_zero, Nat.reduceAdd, Nat.reduceSub, reduceIte, Nat.reduceEqDiff, E.back, E.backR, E.ix, Res.un, AC.un, AC.un.uns, AV.un, E.un, Option.map_some, Option.map_none, Option.getD_some, List.getElem?_cons_zero, List.getElem?_cons_succ, List.getElem?_nil, crkR, crkO, aggC]); rfl)
  refine E_region' (L := [0, 1, 2, 3, 4, 5, 6, 7]) rfl ?_
  refine x_light rfl rfl rfl (L_load rfl (by first | exact d_bp ty_31 | exact ld_rp ty_31 rfl | exact d_ep ty_31)) ?_
  refine x_call rfl rfl rfl rfl rfl ca_62 (c_impl_IsCracker c) ?_
  rintro r S ⟨rfl, rfl⟩
  refine x_pure rfl rfl rfl (L_not rfl rfl) ?_
  refine x_pure rfl rfl rfl (L_move rfl) ?_
  refine EOps_split 21 (b := _) rfl (fun hg21 => ?_) (fun hg21 => ?_)
  · refine x_skip rfl rfl rfl ?_
    refine x_skip rfl rfl rfl ?_
    refine x_skip rfl rfl rfl ?_
    refine x_pure rfl rfl rfl (L_pick rfl rfl) ?_
    refine EOps_nil ?_
    refine E_cond rfl (fun hc25 => ?_) (fun hc25 => ?_)
    · have hk : selK c r = false := by
        cases hk : selK c r
        · rfl
        · exfalso
          have hcv : isCrk c = true ∧ isRng r = true := by simpa [selK] using hk
          first
            | (rw [hcv.1] at hg21; exact Bool.noConfusion hg21)
            | (rw [hcv.2] at hc25; exact Bool.noConfusion hc25)
      rw [hk] at hag
      obtain rfl : ag = (0, 0, 0, 0) := hag
      refine E_seq ?_
      refine E_region' (L := [0, 1, 2, 3]) rfl ?_
      refine x_light rfl rfl rfl (L_load rfl (by first | exact d_bp ty_31 | exact ld_rp ty_31 rfl | exact d_ep ty_31)) ?_
      refine x_pure rfl rfl rfl (L_build rfl bd_33 rfl rfl) ?_
      refine EOps_go rfl rfl (EOp_store rfl rfl rfl (by first | exact s_bp ty_31 | exact s_ep ty_31) ?_)
      refine EOps_go rfl rfl (EOp_store rfl rfl rfl (by first | exact s_bp ty_33 | exact s_ep ty_33) ?_)
      refine EOps_nil ?_
      refine E_ret ?_
      exact ⟨_, [4, 5, 6], rfl, rfl, rfl, rfl⟩
    · exact Bool.noConfusion (hc25 : true = false)
  · refine x_light rfl rfl rfl (L_load rfl (by first | exact d_bp ty_37 | exact ld_rp ty_37 rfl | exact d_ep ty_37)) ?_
    refine x_call rfl rfl rfl rfl rfl ca_63 (c_impl_IsRange r) ?_
    rintro r S ⟨rfl, rfl⟩
    refine x_pure rfl rfl rfl (L_not rfl rfl) ?_
    refine x_pure rfl rfl rfl (L_pick rfl rfl) ?_
    refine EOps_nil ?_
    refine E_cond rfl (fun hc25 => ?_) (fun hc25 => ?_)
    · have hk : selK c r = false := by
        cases hk : selK c r
        · rfl
        · exfalso
          have hcv : isCrk c = true ∧ isRng r = true := by simpa [selK] using hk
          first
            | (rw [hcv.1] at hg21; exact Bool.noConfusion hg21)
            | (rw [hcv.2] at hc25; exact Bool.noConfusion hc25)
      rw [hk] at hag
      obtain rfl : ag = (0, 0, 0, 0) := hag
      refine E_seq ?_
      refine E_region' (L := [0, 1, 2, 3]) rfl ?_
      refine x_light rfl rfl rfl (L_load rfl (by first | exact d_bp ty_31 | exact ld_rp ty_31 rfl | exact d_ep ty_31)) ?_
      refine x_pure rfl rfl rfl (L_build rfl bd_33 rfl rfl) ?_
      refine EOps_go rfl rfl (EOp_store rfl rfl rfl (by first | exact s_bp ty_31 | exact s_ep ty_31) ?_)
      refine EOps_go rfl rfl (EOp_store rfl rfl rfl (by first | exact s_bp ty_33 | exact s_ep ty_33) ?_)
      refine EOps_nil ?_
      refine E_ret ?_
      exact ⟨_, [4, 5, 6], rfl, rfl, rfl, rfl⟩
    · have hcv : isCrk c = true ∧ isRng r = true := ⟨by simpa using hg21, by simpa using hc25⟩
      have hk : selK c r = true := by simp [selK, hcv.1, hcv.2]
      obtain ⟨hqc, h0, hab, hbn, _⟩ := hin hk
      rw [if_pos hk] at hag
      subst hag
      refine E_skip ?_
      refine E_seq ?_
      refine e_tidy [0, 1, 2, 3, 4, 5, 6, 7, 8, 25] ?_ (hb := by simp only [E.keepOf, E.get, E.ev, E.cv, E.fill', E.fill, E.slotsOf, Res.sh, AC.sh, AC.sh.shs, AV.sh, E.splice, List.map_cons, List.map_nil, List.cons_append, List.nil_append, List.append_nil, List.length_cons, List.length_nil, List.take_zero, List.drop_zero, List.take_succ_cons, List.drop_succ_cons, List.drop_nil, List.take_nil, List.set_cons_zero, List.set_cons_succ, Nat.zero_add, Nat.add_zero, Nat.reduceAdd, Nat.reduceSub, reduceIte, Nat.reduceEqDiff, E.back, E.backR, E.ix, Res.un, AC.un, AC.un.uns, AV.un, E.un, Option.map_some, Option.map_none, Option.getD_some, List.getElem?_cons_zero, List.getElem?_cons_succ, List.getElem?_nil, crkR, crkO, aggC]; rfl) (hR := by (try simp only [E.keepOf, E.get, E.ev, E.cv, E.fill', E.fill, E.slotsOf, Res.sh, AC.sh, AC.sh.shs, AV.sh, E.splice, List.map_cons, List.map_nil, List.cons_append, List.nil_append, List.append_nil, List.length_cons, List.length_nil, List.take_zero, List.drop_zero, List.take_succ_cons, List.drop_succ_cons, List.drop_nil, List.take_nil, List.set_cons_zero, List.set_cons_succ, Nat.zero_add, Nat.add_zero, Nat.reduceAdd, Nat.reduceSub, reduceIte, Nat.reduceEqDiff, E.back, E.backR, E.ix, Res.un, AC.un, AC.un.uns, AV.un, E.un, Option.map_some, Option.map_none, Option.getD_some, List.getElem?_cons_zero, List.getElem?_cons_succ, List.getElem?_nil, crkR, crkO, aggC]); rfl)
      refine E_drawT mixed ?_
      refine t_light 0 rfl rfl rfl (L_load rfl (by first | exact d_bp ty_31 | exact ld_rp ty_31 rfl | exact d_ep ty_31)) ?_
      refine t_old 1 rfl rfl rfl (l_field rfl fo_31_0) ?_
      refine t_light 2 rfl rfl rfl (L_load rfl (by first | exact d_bp ty_22 | exact ld_rp ty_22 rfl | exact d_ep ty_22)) ?_
      refine t_old 3 rfl rfl rfl (L_move rfl) ?_
      refine t_old 4 rfl rfl rfl (L_move rfl) ?_
      refine t_old 5 rfl rfl rfl (by first | exact L_slice_ro (l := a) (h := b) rfl sl_22 ty_3 rfl rfl rfl (by first | omega | (simp [ints_len, pairs_len, quads_len, quints_len, bools_len]; omega) | (simp [ints_len, pairs_len, quads_len, quints_len, bools_len] at *; omega)) (by first | omega | (simp [ints_len, pairs_len, quads_len, quints_len, bools_len]; omega) | (simp [ints_len, pairs_len, quads_len, quints_len, bools_len] at *; omega)) (by first | exact fun r hr => (ints_row _ r hr).1 | exact fun r hr => (pairs_row _ r hr).1 | exact fun r hr => (quads_row _ r hr).1 | exact fun r hr => (quints_row _ r hr).1 | exact fun r hr => (bools_row _ r hr).1) | exact L_slice_sl (l := a) (h := b) rfl sl_22 ty_3 rfl (by first | rfl | assumption) (by first | assumption | exact ints_len _ | exact pairs_len _ | exact quads_len _ | exact quints_len _ | exact bools_len _ | (simp [ints_len, bools_len, pairs_len, quads_len, quints_len, part_len, *]; done) | (simp [ints_len, bools_len, pairs_len, quads_len, quints_len]; omega) | rfl) rfl rfl (by first | omega | (simp [ints_len, pairs_len, quads_len, quints_len, bools_len]; omega) | (simp [ints_len, pairs_len, quads_len, quints_len, bools_len] at *; omega)) (by first | omega | (simp [ints_len, pairs_len, quads_len, quints_len, bools_len]; omega) | (simp [ints_len, pairs_len, quads_len, quints_len, bools_len] at *; omega))) ?_
      refine t_call 6 rfl rfl rfl rfl rfl ca_64 (c_impl_AggregateOf (cutV q.vals a b)) ?_ (ha := by exact cons_eq (lend_cutI rfl rfl) rfl)
      rintro r S ⟨rfl, rfl⟩
      refine t_turn 7 rfl rfl (EOp_store rfl rfl rfl (by first | exact s_bp ty_31 | exact s_ep ty_31) ?_)
      refine t_turn 8 rfl rfl (EOp_store rfl rfl rfl (by first | exact s_bp ty_33 | exact s_ep ty_33) ?_)
      refine T_done (by kernel_rfl) ?_
      refine E_ret ?_
      exact ⟨_, [4, 5, 6], rfl, rfl, rfl, rfl⟩

end Go.Proofs.Ytmajgcalliojlaa.E
