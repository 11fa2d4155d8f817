/- Walks through functions, by program out of the session's annotations. -/
import Derived.Test.YtkaikajjhhnifaaA22
namespace Go.Proofs.Ytkaikajjhhnifaa.E
open Go Go.RowKit Go.Proofs
set_option linter.unusedVariables false
set_option linter.unusedSimpArgs false

set_option maxRecDepth 20000 in
set_option maxHeartbeats 4000000 in
theorem c_laws_FnExactPieceAggregates (c : Crk) : EFn Try.prog 3 [.agg (crkC c)] [] (fun r S => r = .c (.sc (.bool true)) ∧ S = []) := by
  refine E_fn Try.func3 rfl (Nat.le_of_ble_eq_true rfl) ?_
  refine E_seq ?_
  refine E_region' (L := [0, 1]) rfl ?_
  refine x_box rfl rfl rfl rfl rfl ?_
  refine x_pure rfl rfl rfl (L_assign rfl) ?_
  refine EOps_nil ?_
  refine E_seq ?_
  refine E_region' (L := [0]) rfl ?_
  refine x_pure rfl rfl rfl (L_assign rfl) ?_
  refine EOps_nil ?_
  refine E_seq ?_
  refine e_tidy [0, 1, 2, 3] ?_
  refine E_region' (L := [0, 1, 2, 3]) rfl ?_
  refine x_light rfl rfl rfl (L_load rfl (by first | exact d_bp ty_25 | exact ld_rp ty_25 rfl | exact d_ep ty_25)) ?_
  refine x_pure rfl rfl rfl (L_move rfl) ?_
  refine x_call rfl rfl rfl rfl rfl ca_15 (c_laws_szCracker c 1048576 (by omega)) ?_
  rintro r S ⟨rfl, rfl⟩
  refine x_pure rfl rfl rfl (L_assign rfl) ?_
  refine EOps_nil ?_
  refine E_seq ?_
  refine E_seq ?_
  refine E_region' (L := [0, 1]) rfl ?_
  refine x_pure rfl rfl rfl (L_move rfl) ?_
  refine x_pure rfl rfl rfl (L_bin rfl rfl rfl rfl) ?_
  refine EOps_nil ?_
  refine E_cond rfl (fun hc15 => ?_) (fun hc15 => ?_)
  · refine E_seq ?_
    refine E_region' (L := [0]) rfl ?_
    refine x_pure rfl rfl rfl (L_assign rfl) ?_
    refine EOps_nil ?_
    refine E_ret ?_
    refine ⟨_, [], rfl, rfl, ?_, rfl⟩
    simp [AV.ren, ren_sc, ren_ro, AC.ren, AC.ren.rens, ix, rv1, E.get, E.ev, E.cv, E.fill', E.fill, E.slotsOf, *]
  · have h1 : ¬ szR 1048576 (c.vals.length + c.rows.length + c.piv.length) < 0 := by simpa using hc15
    have hla := szR_le h1
    have ha : c.vals.length ≤ 1048576 ∧ c.rows.length ≤ 1048576 ∧ c.piv.length ≤ 1048576 := by omega
    have hw := c_spec_PieceAggregates c ha.2.2
    have hg := c_impl_PieceAggregates c
    have hle := aggsL_le (c := c)
    generalize aggsL c = l at hw hg hle
    refine E_skip ?_
    refine E_seq ?_
    refine e_tidy [0, 1, 2, 3, 15] ?_
    refine E_region' (L := [0, 1, 2, 3]) rfl ?_
    refine x_light rfl rfl rfl (L_load rfl (by first | exact d_bp ty_25 | exact ld_rp ty_25 rfl | exact d_ep ty_25)) ?_
    refine x_call rfl rfl rfl rfl rfl ca_17 (c_laws_toCracker c ha) ?_
    rintro r S ⟨rfl, rfl⟩
    refine x_call rfl rfl rfl rfl rfl ca_16 (hw) ?_
    rintro r S ⟨rfl, rfl⟩
    refine x_pure rfl rfl rfl (L_assign rfl) ?_
    refine EOps_nil ?_
    refine E_seq ?_
    refine e_tidy [0, 1, 2, 3, 4, 15] ?_
    refine E_region' (L := [0, 1, 2, 3]) rfl ?_
    refine x_light rfl rfl rfl (L_load rfl (by first | exact d_bp ty_25 | exact ld_rp ty_25 rfl | exact d_ep ty_25)) ?_
    refine x_call rfl rfl rfl rfl rfl ca_17 (c_laws_toCracker c ha) ?_
    rintro r S ⟨rfl, rfl⟩
    refine x_alloc rfl rfl rfl rfl za_31 ?_
    refine EOps_go rfl rfl (EOp_store rfl rfl rfl (by first | exact s_bp ty_31 | exact s_ep ty_31) ?_)
    refine EOps_nil ?_
    refine E_seq ?_
    refine e_tidy [0, 1, 2, 3, 4, 5, 15] ?_
    refine E_region' (L := [0, 1, 2]) rfl ?_
    refine x_light rfl rfl rfl (L_load rfl (by first | exact d_bp ty_31 | exact ld_rp ty_31 rfl | exact d_ep ty_31)) ?_
    refine x_call rfl rfl rfl rfl rfl ca_18 (hg) ?_
    rintro r S ⟨rfl, rfl⟩
    refine x_pure rfl rfl rfl (L_assign rfl) ?_
    refine EOps_nil ?_
    refine E_seq ?_
    refine E_seq ?_
    refine e_tidy [0, 1, 2, 3, 4, 5, 6, 15] ?_
    refine E_region' (L := [0, 1, 2, 3]) rfl ?_
    refine x_pure rfl rfl rfl (L_move rfl) ?_
    refine x_pure rfl rfl rfl (L_move rfl) ?_
    refine x_call rfl rfl rfl rfl rfl ca_19 (c_laws_eqAggregateS l l) ?_
    rintro r S ⟨rfl, rfl⟩
    refine x_pure rfl rfl rfl (L_not rfl rfl) ?_
    refine EOps_nil ?_
    refine E_cond rfl (fun hc26 => ?_) (fun hc26 => ?_)
    · simp at hc26
    · refine E_skip ?_
      refine E_seq ?_
      refine E_seq ?_
      refine e_tidy [0, 1, 2, 3, 4, 5, 6, 15, 26] ?_
      refine E_drawT mixed ?_
      refine t_light 0 rfl rfl rfl (L_load rfl (by first | exact d_bp ty_31 | exact ld_rp ty_31 rfl | exact d_ep ty_31)) ?_
      refine t_light 1 rfl rfl rfl (L_load rfl (by first | exact d_bp ty_25 | exact ld_rp ty_25 rfl | exact d_ep ty_25)) ?_
      refine t_call 2 rfl rfl rfl rfl rfl ca_17 (c_laws_toCracker c ha) ?_
      rintro r S ⟨rfl, rfl⟩
      refine t_call 3 rfl rfl rfl rfl rfl ca_20 (c_laws_eqCracker c c) ?_
      rintro r S ⟨rfl, rfl⟩
      refine t_old 4 rfl rfl rfl (L_not rfl rfl) ?_
      refine T_done (by kernel_rfl) ?_
      refine E_cond rfl (fun hc31 => ?_) (fun hc31 => ?_)
      · simp at hc31
      · refine E_skip ?_
        refine E_seq ?_
        refine E_region' (L := [0]) rfl ?_
        refine x_pure rfl rfl rfl (L_assign rfl) ?_
        refine EOps_nil ?_
        refine E_seq ?_
        refine e_tidy [0, 1, 2, 3, 4, 5, 6, 7, 15, 26, 31] ?_
        refine E_region' (L := [0, 1, 2, 3]) rfl ?_
        refine x_light rfl rfl rfl (L_load rfl (by first | exact d_bp ty_31 | exact ld_rp ty_31 rfl | exact d_ep ty_31)) ?_
        refine x_pure rfl rfl rfl (L_move rfl) ?_
        refine x_frame [5, 6, 7] rfl rfl rfl rfl rfl ca_21 rfl (c_laws_markCracker _ _ _ 1 c _ _ _ rfl rfl rfl ha (by omega)) ?_
        rintro r S ⟨r0, S0, ⟨rfl, rfl⟩, rfl, rfl⟩
        refine x_pure rfl rfl rfl (L_assign rfl) ?_
        refine EOps_nil ?_
        refine E_seq ?_
        refine E_seq ?_
        refine e_tidy [0, 1, 2, 3, 4, 5, 6, 7, 15, 26, 31] ?_
        refine E_region' (L := [0, 1, 2, 3, 4, 5, 6, 7]) rfl ?_
        refine x_pure rfl rfl rfl (L_move rfl) ?_
        refine x_pure rfl rfl rfl (L_bin rfl rfl rfl rfl) ?_
        refine x_pure rfl rfl rfl (L_move rfl) ?_
        refine EOps_split 37 (b := _) rfl (fun hg37 => ?_) (fun hg37 => ?_)
        · simp at hg37; omega
        · refine x_pure rfl rfl rfl (L_move rfl) ?_
          refine x_pure rfl rfl rfl (L_move rfl) ?_
          refine x_call rfl rfl rfl rfl rfl ca_19 (c_laws_eqAggregateS l l) ?_
          rintro r S ⟨rfl, rfl⟩
          refine x_pure rfl rfl rfl (L_not rfl rfl) ?_
          refine x_pure rfl rfl rfl (L_pick rfl rfl) ?_
          refine EOps_nil ?_
          refine E_cond rfl (fun hc42 => ?_) (fun hc42 => ?_)
          · simp at hc42
          · refine E_skip ?_
            refine E_seq ?_
            refine E_region' (L := [0]) rfl ?_
            refine x_pure rfl rfl rfl (L_assign rfl) ?_
            refine EOps_nil ?_
            refine E_seq ?_
            refine e_tidy [0, 1, 2, 3, 4, 5, 6, 7, 8, 15, 26, 31, 42] ?_
            refine E_region' (L := [0, 1, 2, 3]) rfl ?_
            refine x_pure rfl rfl rfl (L_move rfl) ?_
            refine x_pure rfl rfl rfl (L_move rfl) ?_
            refine x_frame [9] rfl rfl rfl rfl rfl ca_22 rfl (c_laws_markAggregateS _ l.length 1 l rfl hle (by omega)) ?_
            rintro r S ⟨r0, S0, ⟨rfl, rfl⟩, rfl, rfl⟩
            refine x_pure rfl rfl rfl (L_assign rfl) ?_
            refine EOps_nil ?_
            refine E_seq ?_
            refine E_region' (L := [0]) rfl ?_
            refine x_pure rfl rfl rfl (L_assign rfl) ?_
            refine EOps_nil ?_
            refine E_seq ?_
            refine e_tidy [0, 1, 2, 3, 4, 5, 6, 7, 8, 9, 15, 26, 31, 42] ?_
            refine E_region' (L := [0, 1, 2, 3]) rfl ?_
            refine x_pure rfl rfl rfl (L_move rfl) ?_
            refine x_pure rfl rfl rfl (L_move rfl) ?_
            refine x_call rfl rfl rfl rfl rfl ca_23 (c_laws_heldAggregateS l.length 1 hle (by omega)) ?_ (ha := by exact cons_eq (lend_whole rfl (by rw [quads_len, seqQ_len])) (cons_eq rfl rfl))
            rintro r S ⟨rfl, rfl⟩
            refine x_pure rfl rfl rfl (L_assign rfl) ?_
            refine EOps_nil ?_
            refine E_seq ?_
            refine E_seq ?_
            refine E_region' (L := [0, 1]) rfl ?_
            refine x_pure rfl rfl rfl (L_move rfl) ?_
            refine x_pure rfl rfl rfl (L_bin rfl rfl rfl rfl) ?_
            refine EOps_nil ?_
            refine E_cond rfl (fun hc50 => ?_) (fun hc50 => ?_)
            · simp at hc50; omega
            · refine E_skip ?_
              refine E_seq ?_
              refine E_seq ?_
              refine E_region' (L := [0, 1, 2]) rfl ?_
              refine x_pure rfl rfl rfl (L_move rfl) ?_
              refine x_pure rfl rfl rfl (L_move rfl) ?_
              refine x_pure rfl rfl rfl (L_bin rfl rfl rfl rfl) ?_
              refine EOps_nil ?_
              refine E_cond rfl (fun hc53 => ?_) (fun hc53 => ?_)
              · simp at hc53
              · refine E_skip ?_
                refine E_seq ?_
                refine e_tidy [0, 1, 2, 3, 4, 5, 6, 7, 8, 9, 15, 26, 31, 42, 50, 53] ?_
                refine E_region' (L := [0, 1, 2, 3]) rfl ?_
                refine x_light rfl rfl rfl (L_load rfl (by first | exact d_bp ty_25 | exact ld_rp ty_25 rfl | exact d_ep ty_25)) ?_
                refine x_call rfl rfl rfl rfl rfl ca_17 (c_laws_toCracker c ha) ?_
                rintro r S ⟨rfl, rfl⟩
                refine x_call rfl rfl rfl rfl rfl ca_18 (hg) ?_
                rintro r S ⟨rfl, rfl⟩
                refine x_pure rfl rfl rfl (L_assign rfl) ?_
                refine EOps_nil ?_
                refine E_seq ?_
                refine E_seq ?_
                refine e_tidy [0, 1, 2, 3, 4, 5, 6, 7, 8, 9, 10, 15, 26, 31, 42, 50, 53] ?_
                refine E_region' (L := [0, 1, 2, 3]) rfl ?_
                refine x_pure rfl rfl rfl (L_move rfl) ?_
                refine x_pure rfl rfl rfl (L_move rfl) ?_
                refine x_call rfl rfl rfl rfl rfl ca_19 (c_laws_eqAggregateS l l) ?_
                rintro r S ⟨rfl, rfl⟩
                refine x_pure rfl rfl rfl (L_not rfl rfl) ?_
                refine EOps_nil ?_
                refine E_cond rfl (fun hc60 => ?_) (fun hc60 => ?_)
                · simp at hc60
                · refine E_skip ?_
                  refine E_seq ?_
                  refine E_region' (L := [0]) rfl ?_
                  refine x_pure rfl rfl rfl (L_assign rfl) ?_
                  refine EOps_nil ?_
                  refine E_seq ?_
                  refine e_tidy [0, 1, 2, 3, 4, 5, 6, 7, 8, 9, 10, 15, 26, 31, 42, 50, 53, 60] ?_
                  refine E_region' (L := [0, 1, 2, 3]) rfl ?_
                  refine x_pure rfl rfl rfl (L_move rfl) ?_
                  refine x_pure rfl rfl rfl (L_move rfl) ?_
                  refine x_call rfl rfl rfl rfl rfl ca_23 (c_laws_heldAggregateS l.length 1 hle (by omega)) ?_ (ha := by exact cons_eq (lend_whole rfl (by rw [quads_len, seqQ_len])) (cons_eq rfl rfl))
                  rintro r S ⟨rfl, rfl⟩
                  refine x_pure rfl rfl rfl (L_assign rfl) ?_
                  refine EOps_nil ?_
                  refine E_seq ?_
                  refine E_seq ?_
                  refine E_region' (L := [0, 1]) rfl ?_
                  refine x_pure rfl rfl rfl (L_move rfl) ?_
                  refine x_pure rfl rfl rfl (L_bin rfl rfl rfl rfl) ?_
                  refine EOps_nil ?_
                  refine E_cond rfl (fun hc65 => ?_) (fun hc65 => ?_)
                  · simp at hc65; omega
                  · refine E_skip ?_
                    refine E_seq ?_
                    refine E_seq ?_
                    refine E_region' (L := [0, 1, 2]) rfl ?_
                    refine x_pure rfl rfl rfl (L_move rfl) ?_
                    refine x_pure rfl rfl rfl (L_move rfl) ?_
                    refine x_pure rfl rfl rfl (L_bin rfl rfl rfl rfl) ?_
                    refine EOps_nil ?_
                    refine E_cond rfl (fun hc68 => ?_) (fun hc68 => ?_)
                    · simp at hc68
                    · refine E_skip ?_
                      refine E_seq ?_
                      refine E_region' (L := [0]) rfl ?_
                      refine x_pure rfl rfl rfl (L_assign rfl) ?_
                      refine EOps_nil ?_
                      refine E_ret ?_
                      refine ⟨_, [], rfl, rfl, ?_, rfl⟩
                      simp [AV.ren, ren_sc, ren_ro, AC.ren, AC.ren.rens, ix, rv1, E.get, E.ev, E.cv, E.fill', E.fill, E.slotsOf, *]

end Go.Proofs.Ytkaikajjhhnifaa.E
