/- Walks through functions, by program out of the session's annotations. -/
import Derived.Test.YthlhmpknngidmaaA205
namespace Go.Proofs.Ythlhmpknngidmaa.E
open Go Go.RowKit Go.Proofs
set_option linter.unusedVariables false
set_option linter.unusedSimpArgs false

theorem e_tidy_A206_0 {P : Program} {N : Nat} {s : Slots} {R : List Res} {Q : Exit → Slots → List Res → Prop} {c : Code} (keep : List Nat) {base : Slots} {R' : List Res} (h : ECode P N c base R' Q) (hb : keepOf s keep = base := by simp only [E.keepOf, E.get, E.ev, E.cv, E.fill', E.fill, E.slotsOf, Res.sh, AC.sh, AC.sh.shs, AV.sh, E.splice, List.map_cons, List.map_nil, List.cons_append, List.nil_append, List.append_nil, List.length_cons, List.length_nil, List.take_zero, List.drop_zero, List.take_succ_cons, List.drop_succ_cons, List.drop_nil, List.take_nil, List.set_cons_zero, List.set_cons_succ, Nat.zero_add, Nat.add_zero, Nat.reduceAdd, Nat.reduceSub, reduceIte, Nat.reduceEqDiff, E.back, E.backR, E.ix, Res.un, AC.un, AC.un.uns, AV.un, E.un, Option.map_some, Option.map_none, Option.getD_some, List.getElem?_cons_zero, List.getElem?_cons_succ, List.getElem?_nil, msR, msO]; rfl) (hR : R = R' := by (try simp only [E.keepOf, E.get, E.ev, E.cv, E.fill', E.fill, E.slotsOf, Res.sh, AC.sh, AC.sh.shs, AV.sh, E.splice, List.map_cons, List.map_nil, List.cons_append, List.nil_append, List.append_nil, List.length_cons, List.length_nil, List.take_zero, List.drop_zero, List.take_succ_cons, List.drop_succ_cons, List.drop_nil, List.take_nil, List.set_cons_zero, List.set_cons_succ, Nat.zero_add, Nat.add_zero, Nat.reduceAdd, Nat.reduceSub, reduceIte, Nat.reduceEqDiff, E.back, E.backR, E.ix, Res.un, AC.un, AC.un.uns, AV.un, E.un, Option.map_some, Option.map_none, Option.getD_some, List.getElem?_cons_zero, List.getElem?_cons_succ, List.getElem?_nil, msR, msO]); rfl) : ECode P N c s R Q := E_tidy keep hb hR h

set_option maxRecDepth 20000 in
set_option maxHeartbeats 8000000 in
theorem c_laws_FnExactEqualMapSets (a b : MSt) : EFn Try.prog 6 [.agg (msC a), .agg (msC b)] [] (fun r S => r = .c (.sc (.bool true)) ∧ S = []) := by
  refine E_fn Try.func6 rfl (Nat.le_of_ble_eq_true rfl) ?_
  have hna := nest_len a.tails
  have hma := mps_len a.maps
  have hnb := nest_len b.tails
  have hmb := mps_len b.maps
  refine E_seq ?_
  refine E_region' (L := [0, 1, 2]) rfl ?_
  refine x_box rfl rfl rfl rfl rfl ?_
  refine x_box rfl rfl rfl rfl rfl ?_
  refine x_pure rfl rfl rfl (L_assign rfl) ?_
  refine EOps_nil ?_
  refine E_seq ?_
  refine E_region' (L := [0]) rfl ?_
  refine x_pure rfl rfl rfl (L_assign rfl) ?_
  refine EOps_nil ?_
  refine E_seq ?_
  refine e_tidy_A206_0 [0, 1, 2, 3, 4, 5] ?_
  refine E_region' (L := [0, 1, 2, 3]) rfl ?_
  refine x_light rfl rfl rfl (L_load rfl (by first | exact d_bp ty_31 | exact ld_rp ty_31 rfl | exact d_ep ty_31)) ?_
  refine x_pure rfl rfl rfl (L_move rfl) ?_
  refine x_call rfl rfl rfl rfl rfl ca_18 (c_laws_szMapSet a 1048576 (by omega)) ?_
  rintro r S ⟨rfl, rfl⟩
  refine x_pure rfl rfl rfl (L_assign rfl) ?_
  refine EOps_nil ?_
  refine E_seq ?_
  refine E_seq ?_
  refine E_region' (L := [0, 1]) rfl ?_
  refine x_pure rfl rfl rfl (L_move rfl) ?_
  refine x_pure rfl rfl rfl (L_bin rfl rfl rfl rfl) ?_
  refine EOps_nil ?_
  refine E_cond rfl (fun hc14 => ?_) (fun hc14 => ?_)
  · refine E_seq ?_
    refine E_region' (L := [0]) rfl ?_
    refine x_pure rfl rfl rfl (L_assign rfl) ?_
    refine EOps_nil ?_
    refine E_ret ?_
    refine ⟨_, [], rfl, rfl, ?_, rfl⟩
    simp [AV.ren, ren_sc, ren_ro, AC.ren, AC.ren.rens, ix, rv1, E.get, E.ev, E.cv, E.fill', E.fill, E.slotsOf, *]
  · have h1 : ¬ szR 1048576 (msZ a) < 0 := by simpa using hc14
    have hla := szR_le h1
    have ha : msZ a ≤ 1048576 := by omega
    refine E_skip ?_
    refine E_seq ?_
    refine e_tidy_A206_0 [0, 1, 2, 3, 4, 5, 14] ?_
    refine E_region' (L := [0, 1, 2, 3]) rfl ?_
    refine x_light rfl rfl rfl (L_load rfl (by first | exact d_bp ty_31 | exact ld_rp ty_31 rfl | exact d_ep ty_31)) ?_
    refine x_pure rfl rfl rfl (L_move rfl) ?_
    refine x_call rfl rfl rfl rfl rfl ca_18 (c_laws_szMapSet b (szR 1048576 (msZ a)) (szR_rng (by omega))) ?_
    rintro r S ⟨rfl, rfl⟩
    refine x_pure rfl rfl rfl (L_assign rfl) ?_
    refine EOps_nil ?_
    refine E_seq ?_
    refine E_seq ?_
    refine E_region' (L := [0, 1]) rfl ?_
    refine x_pure rfl rfl rfl (L_move rfl) ?_
    refine x_pure rfl rfl rfl (L_bin rfl rfl rfl rfl) ?_
    refine EOps_nil ?_
    refine E_cond rfl (fun hc19 => ?_) (fun hc19 => ?_)
    · refine E_seq ?_
      refine E_region' (L := [0]) rfl ?_
      refine x_pure rfl rfl rfl (L_assign rfl) ?_
      refine EOps_nil ?_
      refine E_ret ?_
      refine ⟨_, [], rfl, rfl, ?_, rfl⟩
      simp [AV.ren, ren_sc, ren_ro, AC.ren, AC.ren.rens, ix, rv1, E.get, E.ev, E.cv, E.fill', E.fill, E.slotsOf, *]
    · have h2 : ¬ szR (szR 1048576 (msZ a)) (msZ b) < 0 := by simpa using hc19
      have hlb := szR_le h2
      have hra := szR_rng (l := 1048576) (n := msZ a) (by omega)
      have hb : msZ b ≤ 1048576 := by omega
      refine E_skip ?_
      refine E_seq ?_
      refine e_tidy_A206_0 [0, 1, 2, 3, 4, 5, 14, 19] ?_
      refine E_drawT mixed ?_
      refine t_light 0 rfl rfl rfl (L_load rfl (by first | exact d_bp ty_31 | exact ld_rp ty_31 rfl | exact d_ep ty_31)) ?_
      refine t_light 2 rfl rfl rfl (L_load rfl (by first | exact d_bp ty_31 | exact ld_rp ty_31 rfl | exact d_ep ty_31)) ?_
      refine t_fresh 2 [(⟨none, 1, 21, 0⟩, _), (⟨none, 3, 23, 0⟩, _)] [(21, .any), (23, .any)] [1, 3] ⟨.one rfl rfl rfl (by decide) (f_call rfl rfl ca_20 (c_laws_toMapSet a ha)), .one rfl rfl rfl (by decide) (f_call rfl rfl ca_20 (c_laws_toMapSet b hb)), trivial⟩ ?_
      refine fk_cons ?_
      rintro r S ⟨rfl, rfl⟩
      refine fk_cons ?_
      rintro r S ⟨rfl, rfl⟩
      refine fk_nil ?_
      refine t_call 4 rfl rfl rfl rfl rfl ca_27 (c_spec_EqualMapSets a b) ?_
      rintro r S ⟨rfl, rfl⟩
      refine t_old 5 rfl rfl rfl (L_assign rfl) ?_
      refine T_done (by kernel_rfl) ?_
      refine E_seq ?_
      refine e_tidy_A206_0 [0, 1, 2, 3, 4, 5, 6, 14, 19] ?_
      refine E_region' (L := [0, 1, 2, 3]) rfl ?_
      refine x_light rfl rfl rfl (L_load rfl (by first | exact d_bp ty_31 | exact ld_rp ty_31 rfl | exact d_ep ty_31)) ?_
      refine x_call rfl rfl rfl rfl rfl ca_20 (c_laws_toMapSet a ha) ?_
      rintro r S ⟨rfl, rfl⟩
      refine x_alloc rfl rfl rfl rfl za_36 ?_
      refine EOps_go rfl rfl (EOp_store rfl rfl rfl (by first | exact s_bp ty_36 | exact s_ep ty_36) ?_)
      refine EOps_nil ?_
      refine E_seq ?_
      refine e_tidy_A206_0 [0, 1, 2, 3, 4, 5, 6, 7, 14, 19] ?_
      refine E_region' (L := [0, 1, 2, 3]) rfl ?_
      refine x_light rfl rfl rfl (L_load rfl (by first | exact d_bp ty_31 | exact ld_rp ty_31 rfl | exact d_ep ty_31)) ?_
      refine x_call rfl rfl rfl rfl rfl ca_20 (c_laws_toMapSet b hb) ?_
      rintro r S ⟨rfl, rfl⟩
      refine x_alloc rfl rfl rfl rfl za_36 ?_
      refine EOps_go rfl rfl (EOp_store rfl rfl rfl (by first | exact s_bp ty_36 | exact s_ep ty_36) ?_)
      refine EOps_nil ?_
      refine E_seq ?_
      refine e_tidy_A206_0 [0, 1, 2, 3, 4, 5, 6, 7, 8, 14, 19] ?_
      refine E_region' (L := [0, 1, 2, 3]) rfl ?_
      refine x_light rfl rfl rfl (L_load rfl (by first | exact d_bp ty_36 | exact ld_rp ty_36 rfl | exact d_ep ty_36)) ?_
      refine x_light rfl rfl rfl (L_load rfl (by first | exact d_bp ty_36 | exact ld_rp ty_36 rfl | exact d_ep ty_36)) ?_
      refine x_call rfl rfl rfl rfl rfl ca_28 (c_impl_EqualMapSets a b) ?_
      rintro r S ⟨rfl, rfl⟩
      refine x_pure rfl rfl rfl (L_assign rfl) ?_
      refine EOps_nil ?_
      refine E_seq ?_
      refine E_seq ?_
      refine E_region' (L := [0, 1, 2]) rfl ?_
      refine x_pure rfl rfl rfl (L_move rfl) ?_
      refine x_pure rfl rfl rfl (L_move rfl) ?_
      refine x_pure rfl rfl rfl (L_binB rfl bo_4 rfl rfl rfl) ?_
      refine EOps_nil ?_
      refine E_cond rfl (fun hc34 => ?_) (fun hc34 => ?_)
      · simp at hc34
      · refine E_skip ?_
        refine E_seq ?_
        refine E_seq ?_
        refine e_tidy_A206_0 [0, 1, 2, 3, 4, 5, 6, 7, 8, 9, 14, 19, 34] ?_
        refine E_drawT mixed ?_
        refine t_light 0 rfl rfl rfl (L_load rfl (by first | exact d_bp ty_36 | exact ld_rp ty_36 rfl | exact d_ep ty_36)) ?_
        refine t_light 1 rfl rfl rfl (L_load rfl (by first | exact d_bp ty_31 | exact ld_rp ty_31 rfl | exact d_ep ty_31)) ?_
        refine t_call 2 rfl rfl rfl rfl rfl ca_20 (c_laws_toMapSet a ha) ?_
        rintro r S ⟨rfl, rfl⟩
        refine t_call 3 rfl rfl rfl rfl rfl ca_23 (c_laws_eqMapSet a a) ?_
        rintro r S ⟨rfl, rfl⟩
        refine t_old 4 rfl rfl rfl (L_not rfl rfl) ?_
        refine T_done (by kernel_rfl) ?_
        refine E_cond rfl (fun hc39 => ?_) (fun hc39 => ?_)
        · simp at hc39
        · refine E_skip ?_
          refine E_seq ?_
          refine E_seq ?_
          refine e_tidy_A206_0 [0, 1, 2, 3, 4, 5, 6, 7, 8, 9, 14, 19, 34, 39] ?_
          refine E_drawT mixed ?_
          refine t_light 0 rfl rfl rfl (L_load rfl (by first | exact d_bp ty_36 | exact ld_rp ty_36 rfl | exact d_ep ty_36)) ?_
          refine t_light 1 rfl rfl rfl (L_load rfl (by first | exact d_bp ty_31 | exact ld_rp ty_31 rfl | exact d_ep ty_31)) ?_
          refine t_call 2 rfl rfl rfl rfl rfl ca_20 (c_laws_toMapSet b hb) ?_
          rintro r S ⟨rfl, rfl⟩
          refine t_call 3 rfl rfl rfl rfl rfl ca_23 (c_laws_eqMapSet b b) ?_
          rintro r S ⟨rfl, rfl⟩
          refine t_old 4 rfl rfl rfl (L_not rfl rfl) ?_
          refine T_done (by kernel_rfl) ?_
          refine E_cond rfl (fun hc44 => ?_) (fun hc44 => ?_)
          · simp at hc44
          · refine E_skip ?_
            refine E_seq ?_
            refine E_region' (L := [0]) rfl ?_
            refine x_pure rfl rfl rfl (L_assign rfl) ?_
            refine EOps_nil ?_
            refine E_ret ?_
            refine ⟨_, [], rfl, rfl, ?_, rfl⟩
            simp [AV.ren, ren_sc, ren_ro, AC.ren, AC.ren.rens, ix, rv1, E.get, E.ev, E.cv, E.fill', E.fill, E.slotsOf, *]

end Go.Proofs.Ythlhmpknngidmaa.E
