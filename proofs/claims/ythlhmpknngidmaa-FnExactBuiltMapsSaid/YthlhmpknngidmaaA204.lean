/- Walks through functions, by program out of the session's annotations. -/
import Derived.Test.YthlhmpknngidmaaA203
namespace Go.Proofs.Ythlhmpknngidmaa.E
open Go Go.RowKit Go.Proofs
set_option linter.unusedVariables false
set_option linter.unusedSimpArgs false

theorem e_tidy_A204_0 {P : Program} {N : Nat} {s : Slots} {R : List Res} {Q : Exit → Slots → List Res → Prop} {c : Code} (keep : List Nat) {base : Slots} {R' : List Res} (h : ECode P N c base R' Q) (hb : keepOf s keep = base := by simp only [E.keepOf, E.get, E.ev, E.cv, E.fill', E.fill, E.slotsOf, Res.sh, AC.sh, AC.sh.shs, AV.sh, E.splice, List.map_cons, List.map_nil, List.cons_append, List.nil_append, List.append_nil, List.length_cons, List.length_nil, List.take_zero, List.drop_zero, List.take_succ_cons, List.drop_succ_cons, List.drop_nil, List.take_nil, List.set_cons_zero, List.set_cons_succ, Nat.zero_add, Nat.add_zero, Nat.reduceAdd, Nat.reduceSub, reduceIte, Nat.reduceEqDiff, E.back, E.backR, E.ix, Res.un, AC.un, AC.un.uns, AV.un, E.un, Option.map_some, Option.map_none, Option.getD_some, List.getElem?_cons_zero, List.getElem?_cons_succ, List.getElem?_nil, msR, msO]; rfl) (hR : R = R' := by (try simp only [E.keepOf, E.get, E.ev, E.cv, E.fill', E.fill, E.slotsOf, Res.sh, AC.sh, AC.sh.shs, AV.sh, E.splice, List.map_cons, List.map_nil, List.cons_append, List.nil_append, List.append_nil, List.length_cons, List.length_nil, List.take_zero, List.drop_zero, List.take_succ_cons, List.drop_succ_cons, List.drop_nil, List.take_nil, List.set_cons_zero, List.set_cons_succ, Nat.zero_add, Nat.add_zero, Nat.reduceAdd, Nat.reduceSub, reduceIte, Nat.reduceEqDiff, E.back, E.backR, E.ix, Res.un, AC.un, AC.un.uns, AV.un, E.un, Option.map_some, Option.map_none, Option.getD_some, List.getElem?_cons_zero, List.getElem?_cons_succ, List.getElem?_nil, msR, msO]); rfl) : ECode P N c s R Q := E_tidy keep hb hR h

set_option maxRecDepth 20000 in
set_option maxHeartbeats 8000000 in
theorem c_laws_FnExactBuiltMaps (s : MSt) : EFn Try.prog 5 [.agg (msC s)] [] (fun r S => r = .c (.sc (.bool true)) ∧ S = []) := by
  refine E_fn Try.func5 rfl (Nat.le_of_ble_eq_true rfl) ?_
  refine E_seq ?_
  refine E_region' (L := [0, 1]) rfl ?_
  refine x_box rfl rfl rfl rfl rfl ?_
  refine x_pure rfl rfl rfl (L_assign rfl) ?_
  refine EOps_nil ?_
  refine E_seq ?_
  refine E_region' (L := [0]) rfl ?_
  refine x_pure rfl rfl rfl (L_assign rfl) ?_
  refine EOps_nil ?_
  refine E_seq ?_
  refine e_tidy_A204_0 [0, 1, 2, 3] ?_
  refine E_region' (L := [0, 1, 2, 3]) rfl ?_
  refine x_light rfl rfl rfl (L_load rfl (by first | exact d_bp ty_31 | exact ld_rp ty_31 rfl | exact d_ep ty_31)) ?_
  refine x_pure rfl rfl rfl (L_move rfl) ?_
  refine x_call rfl rfl rfl rfl rfl ca_18 (c_laws_szMapSet (s) (1048576) (by omega)) ?_
  rintro r S ⟨rfl, rfl⟩
  refine x_pure rfl rfl rfl (L_assign rfl) ?_
  refine EOps_nil ?_
  refine E_seq ?_
  refine E_seq ?_
  refine E_region' (L := [0, 1]) rfl ?_
  refine x_pure rfl rfl rfl (L_move rfl) ?_
  refine x_pure rfl rfl rfl (L_bin rfl rfl rfl rfl) ?_
  refine EOps_nil ?_
  refine E_cond rfl (fun hc15 => ?_) (fun hc15 => ?_)
  · refine E_seq ?_
    refine E_region' (L := [0]) rfl ?_
    refine x_pure rfl rfl rfl (L_assign rfl) ?_
    refine EOps_nil ?_
    refine E_ret ?_
    refine ⟨_, [], rfl, rfl, ?_, rfl⟩
    simp [AV.ren, ren_sc, ren_ro, AC.ren, AC.ren.rens, ix, rv1, E.get, E.ev, E.cv, E.fill', E.fill, E.slotsOf, *]
  · have h0 : ¬ szR (1048576) (msZ s) < 0 := by simpa using hc15
    have hl0 := szR_le h0
    have hr0 := szR_rng (l := 1048576) (n := msZ s) (by omega)
    have ha0 : msZ s ≤ 1048576 := by omega
    have hnl := nest_len s.tails
    have hml := mps_len s.maps
    have hbb : s.built.length ≤ 1048576 := by unfold msZ at ha0; omega
    have hw := c_spec_BuiltMaps s hbb
    have hg := c_impl_BuiltMaps s hbb
    have hle0 : (blt s.built).length ≤ 1048576 := by have := bltN_len s.built s.built.length; unfold blt; omega
    generalize blt s.built = l at hw hg hle0
    refine E_skip ?_
    refine E_seq ?_
    refine e_tidy_A204_0 [0, 1, 2, 3, 15] ?_
    refine E_region' (L := [0, 1, 2, 3]) rfl ?_
    refine x_light rfl rfl rfl (L_load rfl (by first | exact d_bp ty_31 | exact ld_rp ty_31 rfl | exact d_ep ty_31)) ?_
    refine x_call rfl rfl rfl rfl rfl ca_20 (c_laws_toMapSet s ha0) ?_
    rintro r S ⟨rfl, rfl⟩
    refine x_call rfl rfl rfl rfl rfl ca_19 (hw) ?_
    rintro r S ⟨rfl, rfl⟩
    refine x_pure rfl rfl rfl (L_assign rfl) ?_
    refine EOps_nil ?_
    refine E_seq ?_
    refine e_tidy_A204_0 [0, 1, 2, 3, 4, 15] ?_
    refine E_region' (L := [0, 1, 2, 3]) rfl ?_
    refine x_light rfl rfl rfl (L_load rfl (by first | exact d_bp ty_31 | exact ld_rp ty_31 rfl | exact d_ep ty_31)) ?_
    refine x_call rfl rfl rfl rfl rfl ca_20 (c_laws_toMapSet s ha0) ?_
    rintro r S ⟨rfl, rfl⟩
    refine x_alloc rfl rfl rfl rfl za_36 ?_
    refine EOps_go rfl rfl (EOp_store rfl rfl rfl (by first | exact s_bp ty_36 | exact s_ep ty_36) ?_)
    refine EOps_nil ?_
    refine E_seq ?_
    refine e_tidy_A204_0 [0, 1, 2, 3, 4, 5, 15] ?_
    refine E_region' (L := [0, 1, 2]) rfl ?_
    refine x_light rfl rfl rfl (L_load rfl (by first | exact d_bp ty_36 | exact ld_rp ty_36 rfl | exact d_ep ty_36)) ?_
    refine x_call rfl rfl rfl rfl rfl ca_21 (hg) ?_
    rintro r S ⟨rfl, rfl⟩
    refine x_pure rfl rfl rfl (L_assign rfl) ?_
    refine EOps_nil ?_
    refine E_seq ?_
    refine E_seq ?_
    refine e_tidy_A204_0 [0, 1, 2, 3, 4, 5, 6, 15] ?_
    refine E_region' (L := [0, 1, 2, 3]) rfl ?_
    refine x_pure rfl rfl rfl (L_move rfl) ?_
    refine x_pure rfl rfl rfl (L_move rfl) ?_
    refine x_call rfl rfl rfl rfl rfl ca_22 (c_laws_eqIntS l l) ?_
    rintro r S ⟨rfl, rfl⟩
    refine x_pure rfl rfl rfl (L_not rfl rfl) ?_
    refine EOps_nil ?_
    refine E_cond rfl (fun hc26 => ?_) (fun hc26 => ?_)
    · first | (simp at hc26; done) | (simp at hc26; omega)
    · refine E_skip ?_
      refine E_seq ?_
      refine E_seq ?_
      refine e_tidy_A204_0 [0, 1, 2, 3, 4, 5, 6, 15, 26] ?_
      refine E_drawT mixed ?_
      refine t_light 0 rfl rfl rfl (L_load rfl (by first | exact d_bp ty_36 | exact ld_rp ty_36 rfl | exact d_ep ty_36)) ?_
      refine t_light 1 rfl rfl rfl (L_load rfl (by first | exact d_bp ty_31 | exact ld_rp ty_31 rfl | exact d_ep ty_31)) ?_
      refine t_call 2 rfl rfl rfl rfl rfl ca_20 (c_laws_toMapSet s ha0) ?_
      rintro r S ⟨rfl, rfl⟩
      refine t_call 3 rfl rfl rfl rfl rfl ca_23 (c_laws_eqMapSet s s) ?_
      rintro r S ⟨rfl, rfl⟩
      refine t_old 4 rfl rfl rfl (L_not rfl rfl) ?_
      refine T_done (by kernel_rfl) ?_
      refine E_cond rfl (fun hc31 => ?_) (fun hc31 => ?_)
      · first | (simp at hc31; done) | (simp at hc31; omega)
      · refine E_skip ?_
        refine E_seq ?_
        refine E_region' (L := [0]) rfl ?_
        refine x_pure rfl rfl rfl (L_assign rfl) ?_
        refine EOps_nil ?_
        refine E_seq ?_
        refine e_tidy_A204_0 [0, 1, 2, 3, 4, 5, 6, 7, 15, 26, 31] ?_
        refine E_region' (L := [0, 1, 2, 3]) rfl ?_
        refine x_light rfl rfl rfl (L_load rfl (by first | exact d_bp ty_36 | exact ld_rp ty_36 rfl | exact d_ep ty_36)) ?_
        refine x_pure rfl rfl rfl (L_move rfl) ?_
        refine x_frame [8, 9, 10, 11, 12, 13] rfl rfl rfl rfl rfl ca_24 rfl (c_laws_markMapSet (1) s ha0 (by omega)) ?_
        rintro r S ⟨r0, S0, ⟨rfl, rfl⟩, rfl, rfl⟩
        refine x_pure rfl rfl rfl (L_assign rfl) ?_
        refine EOps_nil ?_
        refine E_seq ?_
        refine E_seq ?_
        refine e_tidy_A204_0 [0, 1, 2, 3, 4, 5, 6, 7, 15, 26, 31] ?_
        refine E_region' (L := [0, 1, 2, 3, 4, 5, 6, 7]) rfl ?_
        refine x_pure rfl rfl rfl (L_move rfl) ?_
        refine x_pure rfl rfl rfl (L_bin rfl rfl rfl rfl) ?_
        refine x_pure rfl rfl rfl (L_move rfl) ?_
        refine EOps_split 37 (b := _) rfl (fun hg37 => ?_) (fun hg37 => ?_)
        · first | (simp at hg37; done) | (simp at hg37; omega)
        · refine x_pure rfl rfl rfl (L_move rfl) ?_
          refine x_pure rfl rfl rfl (L_move rfl) ?_
          refine x_call rfl rfl rfl rfl rfl ca_22 (c_laws_eqIntS l l) ?_
          rintro r S ⟨rfl, rfl⟩
          refine x_pure rfl rfl rfl (L_not rfl rfl) ?_
          refine x_pure rfl rfl rfl (L_pick rfl rfl) ?_
          refine EOps_nil ?_
          refine E_cond rfl (fun hc42 => ?_) (fun hc42 => ?_)
          · first | (simp at hc42; done) | (simp at hc42; omega)
          · refine E_skip ?_
            refine E_seq ?_
            refine E_region' (L := [0]) rfl ?_
            refine x_pure rfl rfl rfl (L_assign rfl) ?_
            refine EOps_nil ?_
            refine E_seq ?_
            refine e_tidy_A204_0 [0, 1, 2, 3, 4, 5, 6, 7, 8, 15, 26, 31, 42] ?_
            refine E_region' (L := [0, 1, 2, 3]) rfl ?_
            refine x_pure rfl rfl rfl (L_move rfl) ?_
            refine x_pure rfl rfl rfl (L_move rfl) ?_
            refine x_frame [15] rfl rfl rfl rfl rfl ca_25 rfl (c_laws_markIntS _ (l.length) (1) l rfl hle0 (by omega)) ?_
            rintro r S ⟨r0, S0, ⟨rfl, rfl⟩, rfl, rfl⟩
            refine x_pure rfl rfl rfl (L_assign rfl) ?_
            refine EOps_nil ?_
            refine E_seq ?_
            refine E_region' (L := [0]) rfl ?_
            refine x_pure rfl rfl rfl (L_assign rfl) ?_
            refine EOps_nil ?_
            refine E_seq ?_
            refine e_tidy_A204_0 [0, 1, 2, 3, 4, 5, 6, 7, 8, 9, 15, 26, 31, 42] ?_
            refine E_region' (L := [0, 1, 2, 3]) rfl ?_
            refine x_pure rfl rfl rfl (L_move rfl) ?_
            refine x_pure rfl rfl rfl (L_move rfl) ?_
            refine x_call rfl rfl rfl rfl rfl ca_26 (c_laws_heldIntS (l.length) (1) hle0 (by omega)) ?_ (ha := by exact cons_eq (lend_whole rfl (by simp [ints_len, seqF_len])) (cons_eq rfl rfl))
            rintro r S ⟨rfl, rfl⟩
            refine x_pure rfl rfl rfl (L_assign rfl) ?_
            refine EOps_nil ?_
            refine E_seq ?_
            refine E_seq ?_
            refine E_region' (L := [0, 1]) rfl ?_
            refine x_pure rfl rfl rfl (L_move rfl) ?_
            refine x_pure rfl rfl rfl (L_bin rfl rfl rfl rfl) ?_
            refine EOps_nil ?_
            refine E_cond rfl (fun hc50 => ?_) (fun hc50 => ?_)
            · first | (simp at hc50; done) | (simp at hc50; omega)
            · refine E_skip ?_
              refine E_seq ?_
              refine E_seq ?_
              refine E_region' (L := [0, 1, 2]) rfl ?_
              refine x_pure rfl rfl rfl (L_move rfl) ?_
              refine x_pure rfl rfl rfl (L_move rfl) ?_
              refine x_pure rfl rfl rfl (L_bin rfl rfl rfl rfl) ?_
              refine EOps_nil ?_
              refine E_cond rfl (fun hc53 => ?_) (fun hc53 => ?_)
              · first | (simp at hc53; done) | (simp at hc53; omega)
              · refine E_skip ?_
                refine E_seq ?_
                refine e_tidy_A204_0 [0, 1, 2, 3, 4, 5, 6, 7, 8, 9, 15, 26, 31, 42, 50, 53] ?_
                refine E_region' (L := [0, 1, 2, 3]) rfl ?_
                refine x_light rfl rfl rfl (L_load rfl (by first | exact d_bp ty_31 | exact ld_rp ty_31 rfl | exact d_ep ty_31)) ?_
                refine x_call rfl rfl rfl rfl rfl ca_20 (c_laws_toMapSet s ha0) ?_
                rintro r S ⟨rfl, rfl⟩
                refine x_call rfl rfl rfl rfl rfl ca_21 (hg) ?_
                rintro r S ⟨rfl, rfl⟩
                refine x_pure rfl rfl rfl (L_assign rfl) ?_
                refine EOps_nil ?_
                refine E_seq ?_
                refine E_seq ?_
                refine e_tidy_A204_0 [0, 1, 2, 3, 4, 5, 6, 7, 8, 9, 10, 15, 26, 31, 42, 50, 53] ?_
                refine E_region' (L := [0, 1, 2, 3]) rfl ?_
                refine x_pure rfl rfl rfl (L_move rfl) ?_
                refine x_pure rfl rfl rfl (L_move rfl) ?_
                refine x_call rfl rfl rfl rfl rfl ca_22 (c_laws_eqIntS l l) ?_
                rintro r S ⟨rfl, rfl⟩
                refine x_pure rfl rfl rfl (L_not rfl rfl) ?_
                refine EOps_nil ?_
                refine E_cond rfl (fun hc60 => ?_) (fun hc60 => ?_)
                · first | (simp at hc60; done) | (simp at hc60; omega)
                · refine E_skip ?_
                  refine E_seq ?_
                  refine E_region' (L := [0]) rfl ?_
                  refine x_pure rfl rfl rfl (L_assign rfl) ?_
                  refine EOps_nil ?_
                  refine E_seq ?_
                  refine e_tidy_A204_0 [0, 1, 2, 3, 4, 5, 6, 7, 8, 9, 10, 15, 26, 31, 42, 50, 53, 60] ?_
                  refine E_region' (L := [0, 1, 2, 3]) rfl ?_
                  refine x_pure rfl rfl rfl (L_move rfl) ?_
                  refine x_pure rfl rfl rfl (L_move rfl) ?_
                  refine x_call rfl rfl rfl rfl rfl ca_26 (c_laws_heldIntS (l.length) (1) hle0 (by omega)) ?_ (ha := by exact cons_eq (lend_whole rfl (by simp [ints_len, seqF_len])) (cons_eq rfl rfl))
                  rintro r S ⟨rfl, rfl⟩
                  refine x_pure rfl rfl rfl (L_assign rfl) ?_
                  refine EOps_nil ?_
                  refine E_seq ?_
                  refine E_seq ?_
                  refine E_region' (L := [0, 1]) rfl ?_
                  refine x_pure rfl rfl rfl (L_move rfl) ?_
                  refine x_pure rfl rfl rfl (L_bin rfl rfl rfl rfl) ?_
                  refine EOps_nil ?_
                  refine E_cond rfl (fun hc65 => ?_) (fun hc65 => ?_)
                  · first | (simp at hc65; done) | (simp at hc65; omega)
                  · refine E_skip ?_
                    refine E_seq ?_
                    refine E_seq ?_
                    refine E_region' (L := [0, 1, 2]) rfl ?_
                    refine x_pure rfl rfl rfl (L_move rfl) ?_
                    refine x_pure rfl rfl rfl (L_move rfl) ?_
                    refine x_pure rfl rfl rfl (L_bin rfl rfl rfl rfl) ?_
                    refine EOps_nil ?_
                    refine E_cond rfl (fun hc68 => ?_) (fun hc68 => ?_)
                    · first | (simp at hc68; done) | (simp at hc68; omega)
                    · refine E_skip ?_
                      refine E_seq ?_
                      refine E_region' (L := [0]) rfl ?_
                      refine x_pure rfl rfl rfl (L_assign rfl) ?_
                      refine EOps_nil ?_
                      refine E_ret ?_
                      refine ⟨_, [], rfl, rfl, ?_, rfl⟩
                      simp [AV.ren, ren_sc, ren_ro, AC.ren, AC.ren.rens, ix, rv1, E.get, E.ev, E.cv, E.fill', E.fill, E.slotsOf, *]

end Go.Proofs.Ythlhmpknngidmaa.E
