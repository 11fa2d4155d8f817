/- Walks through functions, by program out of the session's annotations. -/
import Derived.Test.YtmajgcalliojlaaA61
import Derived.Test.YtmajgcalliojlaaE36
import Derived.Test.YtmajgcalliojlaaE39
namespace Go.Proofs.Ytmajgcalliojlaa.E
open Go Go.RowKit Go.Proofs
set_option linter.unusedVariables false
set_option linter.unusedSimpArgs false

def smL (c : Crk) (k : Int) : List Int := if cpK c k = true then sortI (cutV (cpC c k).vals ((0 : Nat) : Int) k) else []
theorem smL_le {c : Crk} {k : Int} : (smL c k).length ≤ 1048576 := by
  cases hk : cpK c k
  · rw [smL, hk]; simp
  · have h := cpC_ok hk
    have := crk_lens h.1
    rw [smL, if_pos hk, sortI_len, cutV, List.length_take, List.length_drop]
    omega
theorem smL_len {c : Crk} {k : Int} (hk : cpK c k = true) : ((smL c k).length : Int) = k := by
  have h := cpC_ok hk
  have hp := cpK_parts hk
  rw [smL, if_pos hk, sortI_len, cutV_len (Int.natCast_nonneg _) (by omega) (by omega)]
  omega

set_option maxRecDepth 20000 in
set_option maxHeartbeats 4000000 in
theorem c_spec_SmallestValues (c : Crk) (k : Int) (hb : c.vals.length ≤ 1048576 ∧ c.rows.length ≤ 1048576 ∧ c.piv.length ≤ 1048576) : EFn Try.prog 37 [.agg (crkC c), .c (.sc (.int .i64 k))] [] (fun r S => r = .tup [(true, crkO 0 (cpC c k)), (false, [.sl 3 0 (smL c k).length (smL c k).length])] ∧ S = crkR 3 126 (cpC c k) ++ [.row 3 1 (ints (smL c k))]) := by
  refine E_fn Try.func37 rfl (Nat.le_of_ble_eq_true rfl) ?_
  have hle := cpC_le (k := k) hb
  have hok := cpC_ok (c := c) (k := k)
  have hsm : smL c k = if cpK c k = true then sortI (cutV (cpC c k).vals ((0 : Nat) : Int) k) else [] := rfl
  have hpk := cpK_parts (c := c) (k := k)
  refine E_seq ?_
  refine E_region' (L := [0, 1, 2]) rfl ?_
  refine x_box rfl rfl rfl rfl rfl ?_
  refine x_alloc rfl rfl rfl rfl za_31 ?_
  refine x_pure rfl rfl rfl (L_assign rfl) ?_
  refine EOps_nil ?_
  refine E_seq ?_
  refine e_tidy [0, 1, 2, 4, 5] ?_ (hb := by simp only [E.keepOf, E.get, E.ev, E.cv, E.fill', E.fill, E.slotsOf, Res.sh, AC.sh, AC.sh.shs, AV.sh, E.splice, List.map_cons, List.map_nil, List.cons_append, List.nil_append, List.append_nil, List.length_cons, List.length_nil, List.take_zero, List.drop_zero, List.take_succ_cons, List.drop_succ_cons, List.drop_nil, List.take_nil, List.set_cons_zero, List.set_cons_succ, Nat.zero_add, Nat.add_zero, Nat.reduceAdd, Nat.reduceSub, reduceIte, Nat.reduceEqDiff, E.back, E.backR, E.ix, Res.un, AC.un, AC.un.uns, AV.un, E.un, Option.map_some, Option.map_none, Option.getD_some, List.getElem?_cons_zero, List.getElem?_cons_succ, List.getElem?_nil, crkR, crkO]; rfl) (hR := by (try simp only [E.keepOf, E.get, E.ev, E.cv, E.fill', E.fill, E.slotsOf, Res.sh, AC.sh, AC.sh.shs, AV.sh, E.splice, List.map_cons, List.map_nil, List.cons_append, List.nil_append, List.append_nil, List.length_cons, List.length_nil, List.take_zero, List.drop_zero, List.take_succ_cons, List.drop_succ_cons, List.drop_nil, List.take_nil, List.set_cons_zero, List.set_cons_succ, Nat.zero_add, Nat.add_zero, Nat.reduceAdd, Nat.reduceSub, reduceIte, Nat.reduceEqDiff, E.back, E.backR, E.ix, Res.un, AC.un, AC.un.uns, AV.un, E.un, Option.map_some, Option.map_none, Option.getD_some, List.getElem?_cons_zero, List.getElem?_cons_succ, List.getElem?_nil, crkR, crkO]); rfl)
  refine E_region' (L := [0, 1, 2, 3, 4, 5, 6, 7, 8, 9, 10]) rfl ?_
  refine x_light rfl rfl rfl (L_load rfl (by first | exact d_bp ty_31 | exact ld_rp ty_31 rfl | exact d_ep ty_31)) ?_
  refine x_pure rfl rfl rfl (L_move rfl) ?_
  refine x_call rfl rfl rfl rfl rfl ca_35 (c_spec_CrackPosition c k hb) ?_
  rintro r S ⟨rfl, rfl⟩
  generalize smL c k = sm at *
  generalize cpC c k = q at *
  generalize cpN c k = nn at *
  generalize cpK c k = kk at *
  refine x_pure rfl rfl rfl (L_move rfl) ?_
  refine x_pure rfl rfl rfl (L_extract rfl rfl) ?_
  refine x_pure rfl rfl rfl (L_extract rfl rfl) ?_
  refine x_pure rfl rfl rfl (L_extract rfl rfl) ?_
  refine x_alloc rfl rfl rfl rfl za_31 ?_
  refine EOps_go rfl rfl (EOp_store rfl rfl rfl (by first | exact s_bp ty_31 | exact s_ep ty_31) ?_)
  refine x_pure rfl rfl rfl (L_assign rfl) ?_
  refine x_pure rfl rfl rfl (L_assign rfl) ?_
  refine EOps_nil ?_
  refine E_seq ?_
  refine E_seq ?_
  refine E_region' (L := [0, 1]) rfl ?_
  refine x_pure rfl rfl rfl (L_move rfl) ?_
  refine x_pure rfl rfl rfl (L_not rfl rfl) ?_
  refine EOps_nil ?_
  refine E_cond rfl (fun hc17 => ?_) (fun hc17 => ?_)
  · obtain rfl : kk = false := by simpa using hc17
    obtain rfl : sm = [] := hsm
    refine E_seq ?_
    refine E_region' (L := [0, 1, 2, 3]) rfl ?_
    refine x_light rfl rfl rfl (L_load rfl (by first | exact d_bp ty_31 | exact ld_rp ty_31 rfl | exact d_ep ty_31)) ?_
    refine EOps_go rfl rfl (Heavy.op (H_bslice rfl rfl (by decide) sl_22 ty_3 za_3 ⟨rfl, by decide⟩ (by decide) rfl rfl rfl rfl ?_))
    refine EOps_go rfl rfl (EOp_store rfl rfl rfl (by first | exact s_bp ty_31 | exact s_ep ty_31) ?_)
    refine x_pure rfl rfl rfl (L_assign rfl) ?_
    refine EOps_nil ?_
    refine E_ret ?_
    exact ⟨_, [2, 3, 4, 6], rfl, rfl, rfl, rfl⟩
  · obtain rfl : kk = true := by simpa using hc17
    obtain ⟨hq1, hq2⟩ := hok rfl
    have hp := hpk rfl
    rw [if_pos rfl] at hsm
    obtain ⟨kn, rfl⟩ : ∃ kn : Nat, k = kn := ⟨_, (Int.toNat_of_nonneg hp.2.1).symm⟩
    have hle2 : (cutV q.vals ((0 : Nat) : Int) kn).length ≤ 1048576 := by rw [cutV, List.length_take, List.length_drop]; omega
    refine E_skip ?_
    refine E_seq ?_
    refine e_tidy [0, 1, 2, 4, 5, 6, 8, 17] ?_ (hb := by simp only [E.keepOf, E.get, E.ev, E.cv, E.fill', E.fill, E.slotsOf, Res.sh, AC.sh, AC.sh.shs, AV.sh, E.splice, List.map_cons, List.map_nil, List.cons_append, List.nil_append, List.append_nil, List.length_cons, List.length_nil, List.take_zero, List.drop_zero, List.take_succ_cons, List.drop_succ_cons, List.drop_nil, List.take_nil, List.set_cons_zero, List.set_cons_succ, Nat.zero_add, Nat.add_zero, Nat.reduceAdd, Nat.reduceSub, reduceIte, Nat.reduceEqDiff, E.back, E.backR, E.ix, Res.un, AC.un, AC.un.uns, AV.un, E.un, Option.map_some, Option.map_none, Option.getD_some, List.getElem?_cons_zero, List.getElem?_cons_succ, List.getElem?_nil, crkR, crkO]; rfl) (hR := by (try simp only [E.keepOf, E.get, E.ev, E.cv, E.fill', E.fill, E.slotsOf, Res.sh, AC.sh, AC.sh.shs, AV.sh, E.splice, List.map_cons, List.map_nil, List.cons_append, List.nil_append, List.append_nil, List.length_cons, List.length_nil, List.take_zero, List.drop_zero, List.take_succ_cons, List.drop_succ_cons, List.drop_nil, List.take_nil, List.set_cons_zero, List.set_cons_succ, Nat.zero_add, Nat.add_zero, Nat.reduceAdd, Nat.reduceSub, reduceIte, Nat.reduceEqDiff, E.back, E.backR, E.ix, Res.un, AC.un, AC.un.uns, AV.un, E.un, Option.map_some, Option.map_none, Option.getD_some, List.getElem?_cons_zero, List.getElem?_cons_succ, List.getElem?_nil, crkR, crkO]); rfl)
    refine E_drawT mixed ?_
    refine t_light 0 rfl rfl rfl (L_load rfl (by first | exact d_bp ty_31 | exact ld_rp ty_31 rfl | exact d_ep ty_31)) ?_
    refine t_old 1 rfl rfl rfl (l_field rfl fo_31_0) ?_
    refine t_light 2 rfl rfl rfl (L_load rfl (by first | exact d_bp ty_22 | exact ld_rp ty_22 rfl | exact d_ep ty_22)) ?_
    refine t_old 3 rfl rfl rfl (L_move rfl) ?_
    refine t_old 4 rfl rfl rfl (by first | exact L_slice_ro (l := 0) (h := kn) rfl sl_22 ty_3 rfl rfl rfl (by first | omega | (simp [ints_len, pairs_len, quads_len, quints_len, bools_len]; omega) | (simp [ints_len, pairs_len, quads_len, quints_len, bools_len] at *; omega)) (by first | omega | (simp [ints_len, pairs_len, quads_len, quints_len, bools_len]; omega) | (simp [ints_len, pairs_len, quads_len, quints_len, bools_len] at *; omega)) (by first | exact fun r hr => (ints_row _ r hr).1 | exact fun r hr => (pairs_row _ r hr).1 | exact fun r hr => (quads_row _ r hr).1 | exact fun r hr => (quints_row _ r hr).1 | exact fun r hr => (bools_row _ r hr).1) | exact L_slice_sl (l := 0) (h := kn) rfl sl_22 ty_3 rfl (by first | rfl | assumption) (by first | assumption | exact ints_len _ | exact pairs_len _ | exact quads_len _ | exact quints_len _ | exact bools_len _ | (simp [ints_len, bools_len, pairs_len, quads_len, quints_len, part_len, *]; done) | (simp [ints_len, bools_len, pairs_len, quads_len, quints_len]; omega) | rfl) rfl rfl (by first | omega | (simp [ints_len, pairs_len, quads_len, quints_len, bools_len]; omega) | (simp [ints_len, pairs_len, quads_len, quints_len, bools_len] at *; omega)) (by first | omega | (simp [ints_len, pairs_len, quads_len, quints_len, bools_len]; omega) | (simp [ints_len, pairs_len, quads_len, quints_len, bools_len] at *; omega))) ?_
    refine t_call 5 rfl rfl rfl rfl rfl ca_90 (c_spec_SortInts (cutV q.vals ((0 : Nat) : Int) kn) hle2) ?_ (ha := by exact cons_eq (lend_cutI rfl rfl) rfl)
    rintro r S ⟨rfl, rfl⟩
    refine t_turn 6 rfl rfl (EOp_store rfl rfl rfl (by first | exact s_bp ty_31 | exact s_ep ty_31) ?_)
    refine t_old 7 rfl rfl rfl (L_assign rfl) ?_
    refine T_done (by kernel_rfl) ?_
    refine E_ret ?_
    rw [hsm]
    exact ⟨_, [2, 3, 4, 6], rfl, rfl, rfl, rfl⟩

set_option maxRecDepth 20000 in
set_option maxHeartbeats 4000000 in
theorem c_impl_SmallestValues (c : Crk) (k : Int) (hb : c.vals.length ≤ 1048576 ∧ c.rows.length ≤ 1048576 ∧ c.piv.length ≤ 1048576) : EFn Try.prog 38 [.agg (crkC c), .c (.sc (.int .i64 k))] [] (fun r S => r = .tup [(true, crkO 0 (cpC c k)), (false, [.sl 3 0 (smL c k).length (smL c k).length])] ∧ S = crkR 3 126 (cpC c k) ++ [.row 3 1 (ints (smL c k))]) := by
  refine E_fn Try.func38 rfl (Nat.le_of_ble_eq_true rfl) ?_
  have hle := cpC_le (k := k) hb
  have hok := cpC_ok (c := c) (k := k)
  have hsm : smL c k = if cpK c k = true then sortI (cutV (cpC c k).vals ((0 : Nat) : Int) k) else [] := rfl
  have hpk := cpK_parts (c := c) (k := k)
  refine E_seq ?_
  refine E_region' (L := [0, 1, 2]) rfl ?_
  refine x_box rfl rfl rfl rfl rfl ?_
  refine x_alloc rfl rfl rfl rfl za_31 ?_
  refine x_pure rfl rfl rfl (L_assign rfl) ?_
  refine EOps_nil ?_
  refine E_seq ?_
  refine e_tidy [0, 1, 2, 4, 5] ?_ (hb := by simp only [E.keepOf, E.get, E.ev, E.cv, E.fill', E.fill, E.slotsOf, Res.sh, AC.sh, AC.sh.shs, AV.sh, E.splice, List.map_cons, List.map_nil, List.cons_append, List.nil_append, List.append_nil, List.length_cons, List.length_nil, List.take_zero, List.drop_zero, List.take_succ_cons, List.drop_succ_cons, List.drop_nil, List.take_nil, List.set_cons_zero, List.set_cons_succ, Nat.zero_add, Nat.add_zero, Nat.reduceAdd, Nat.reduceSub, reduceIte, Nat.reduceEqDiff, E.back, E.backR, E.ix, Res.un, AC.un, AC.un.uns, AV.un, E.un, Option.map_some, Option.map_none, Option.getD_some, List.getElem?_cons_zero, List.getElem?_cons_succ, List.getElem?_nil, crkR, crkO]; rfl) (hR := by (try simp only [E.keepOf, E.get, E.ev, E.cv, E.fill', E.fill, E.slotsOf, Res.sh, AC.sh, AC.sh.shs, AV.sh, E.splice, List.map_cons, List.map_nil, List.cons_append, List.nil_append, List.append_nil, List.length_cons, List.length_nil, List.take_zero, List.drop_zero, List.take_succ_cons, List.drop_succ_cons, List.drop_nil, List.take_nil, List.set_cons_zero, List.set_cons_succ, Nat.zero_add, Nat.add_zero, Nat.reduceAdd, Nat.reduceSub, reduceIte, Nat.reduceEqDiff, E.back, E.backR, E.ix, Res.un, AC.un, AC.un.uns, AV.un, E.un, Option.map_some, Option.map_none, Option.getD_some, List.getElem?_cons_zero, List.getElem?_cons_succ, List.getElem?_nil, crkR, crkO]); rfl)
  refine E_region' (L := [0, 1, 2, 3, 4, 5, 6, 7, 8, 9, 10]) rfl ?_
  refine x_light rfl rfl rfl (L_load rfl (by first | exact d_bp ty_31 | exact ld_rp ty_31 rfl | exact d_ep ty_31)) ?_
  refine x_pure rfl rfl rfl (L_move rfl) ?_
  refine x_call rfl rfl rfl rfl rfl ca_36 (c_impl_CrackPosition c k hb) ?_
  rintro r S ⟨rfl, rfl⟩
  generalize smL c k = sm at *
  generalize cpC c k = q at *
  generalize cpN c k = nn at *
  generalize cpK c k = kk at *
  refine x_pure rfl rfl rfl (L_move rfl) ?_
  refine x_pure rfl rfl rfl (L_extract rfl rfl) ?_
  refine x_pure rfl rfl rfl (L_extract rfl rfl) ?_
  refine x_pure rfl rfl rfl (L_extract rfl rfl) ?_
  refine x_alloc rfl rfl rfl rfl za_31 ?_
  refine EOps_go rfl rfl (EOp_store rfl rfl rfl (by first | exact s_bp ty_31 | exact s_ep ty_31) ?_)
  refine x_pure rfl rfl rfl (L_assign rfl) ?_
  refine x_pure rfl rfl rfl (L_assign rfl) ?_
  refine EOps_nil ?_
  refine E_seq ?_
  refine E_seq ?_
  refine E_region' (L := [0, 1]) rfl ?_
  refine x_pure rfl rfl rfl (L_move rfl) ?_
  refine x_pure rfl rfl rfl (L_not rfl rfl) ?_
  refine EOps_nil ?_
  refine E_cond rfl (fun hc17 => ?_) (fun hc17 => ?_)
  · obtain rfl : kk = false := by simpa using hc17
    obtain rfl : sm = [] := hsm
    refine E_seq ?_
    refine E_region' (L := [0, 1, 2]) rfl ?_
    refine x_light rfl rfl rfl (L_load rfl (by first | exact d_bp ty_31 | exact ld_rp ty_31 rfl | exact d_ep ty_31)) ?_
    refine EOps_go rfl rfl (EOp_store rfl rfl rfl (by first | exact s_bp ty_31 | exact s_ep ty_31) ?_)
    refine x_pure rfl rfl rfl (L_assign rfl) ?_
    refine EOps_nil ?_
    refine E_ghostS 5 3 1 rfl (by decide) ?_
    refine E_ret ?_
    exact ⟨_, [2, 3, 4, 6], rfl, rfl, rfl, rfl⟩
  · obtain rfl : kk = true := by simpa using hc17
    obtain ⟨hq1, hq2⟩ := hok rfl
    have hp := hpk rfl
    rw [if_pos rfl] at hsm
    obtain ⟨kn, rfl⟩ : ∃ kn : Nat, k = kn := ⟨_, (Int.toNat_of_nonneg hp.2.1).symm⟩
    have hle2 : (cutV q.vals ((0 : Nat) : Int) kn).length ≤ 1048576 := by rw [cutV, List.length_take, List.length_drop]; omega
    refine E_skip ?_
    refine E_seq ?_
    refine e_tidy [0, 1, 2, 4, 5, 6, 8, 17] ?_ (hb := by simp only [E.keepOf, E.get, E.ev, E.cv, E.fill', E.fill, E.slotsOf, Res.sh, AC.sh, AC.sh.shs, AV.sh, E.splice, List.map_cons, List.map_nil, List.cons_append, List.nil_append, List.append_nil, List.length_cons, List.length_nil, List.take_zero, List.drop_zero, List.take_succ_cons, List.drop_succ_cons, List.drop_nil, List.take_nil, List.set_cons_zero, List.set_cons_succ, Nat.zero_add, Nat.add_zero, Nat.reduceAdd, Nat.reduceSub, reduceIte, Nat.reduceEqDiff, E.back, E.backR, E.ix, Res.un, AC.un, AC.un.uns, AV.un, E.un, Option.map_some, Option.map_none, Option.getD_some, List.getElem?_cons_zero, List.getElem?_cons_succ, List.getElem?_nil, crkR, crkO]; rfl) (hR := by (try simp only [E.keepOf, E.get, E.ev, E.cv, E.fill', E.fill, E.slotsOf, Res.sh, AC.sh, AC.sh.shs, AV.sh, E.splice, List.map_cons, List.map_nil, List.cons_append, List.nil_append, List.append_nil, List.length_cons, List.length_nil, List.take_zero, List.drop_zero, List.take_succ_cons, List.drop_succ_cons, List.drop_nil, List.take_nil, List.set_cons_zero, List.set_cons_succ, Nat.zero_add, Nat.add_zero, Nat.reduceAdd, Nat.reduceSub, reduceIte, Nat.reduceEqDiff, E.back, E.backR, E.ix, Res.un, AC.un, AC.un.uns, AV.un, E.un, Option.map_some, Option.map_none, Option.getD_some, List.getElem?_cons_zero, List.getElem?_cons_succ, List.getElem?_nil, crkR, crkO]); rfl)
    refine E_drawT mixed ?_
    refine t_light 0 rfl rfl rfl (L_load rfl (by first | exact d_bp ty_31 | exact ld_rp ty_31 rfl | exact d_ep ty_31)) ?_
    refine t_old 1 rfl rfl rfl (l_field rfl fo_31_0) ?_
    refine t_light 2 rfl rfl rfl (L_load rfl (by first | exact d_bp ty_22 | exact ld_rp ty_22 rfl | exact d_ep ty_22)) ?_
    refine t_old 3 rfl rfl rfl (L_move rfl) ?_
    refine t_old 4 rfl rfl rfl (by first | exact L_slice_ro (l := 0) (h := kn) rfl sl_22 ty_3 rfl rfl rfl (by first | omega | (simp [ints_len, pairs_len, quads_len, quints_len, bools_len]; omega) | (simp [ints_len, pairs_len, quads_len, quints_len, bools_len] at *; omega)) (by first | omega | (simp [ints_len, pairs_len, quads_len, quints_len, bools_len]; omega) | (simp [ints_len, pairs_len, quads_len, quints_len, bools_len] at *; omega)) (by first | exact fun r hr => (ints_row _ r hr).1 | exact fun r hr => (pairs_row _ r hr).1 | exact fun r hr => (quads_row _ r hr).1 | exact fun r hr => (quints_row _ r hr).1 | exact fun r hr => (bools_row _ r hr).1) | exact L_slice_sl (l := 0) (h := kn) rfl sl_22 ty_3 rfl (by first | rfl | assumption) (by first | assumption | exact ints_len _ | exact pairs_len _ | exact quads_len _ | exact quints_len _ | exact bools_len _ | (simp [ints_len, bools_len, pairs_len, quads_len, quints_len, part_len, *]; done) | (simp [ints_len, bools_len, pairs_len, quads_len, quints_len]; omega) | rfl) rfl rfl (by first | omega | (simp [ints_len, pairs_len, quads_len, quints_len, bools_len]; omega) | (simp [ints_len, pairs_len, quads_len, quints_len, bools_len] at *; omega)) (by first | omega | (simp [ints_len, pairs_len, quads_len, quints_len, bools_len]; omega) | (simp [ints_len, pairs_len, quads_len, quints_len, bools_len] at *; omega))) ?_
    refine t_call 5 rfl rfl rfl rfl rfl ca_91 (c_impl_SortInts (cutV q.vals ((0 : Nat) : Int) kn) hle2) ?_ (ha := by exact cons_eq (lend_cutI rfl rfl) rfl)
    rintro r S ⟨rfl, rfl⟩
    refine t_turn 6 rfl rfl (EOp_store rfl rfl rfl (by first | exact s_bp ty_31 | exact s_ep ty_31) ?_)
    refine t_old 7 rfl rfl rfl (L_assign rfl) ?_
    refine T_done (by kernel_rfl) ?_
    refine E_ret ?_
    rw [hsm]
    exact ⟨_, [2, 3, 4, 6], rfl, rfl, rfl, rfl⟩

end Go.Proofs.Ytmajgcalliojlaa.E
