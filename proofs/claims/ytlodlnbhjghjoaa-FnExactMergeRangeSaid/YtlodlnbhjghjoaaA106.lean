/- Walks through functions, by program out of the session's annotations. -/
import Derived.Test.YtlodlnbhjghjoaaA104
import Derived.Test.YtlodlnbhjghjoaaA105
import Derived.Test.YtlodlnbhjghjoaaA31
import Derived.Test.YtlodlnbhjghjoaaA09
namespace Go.Proofs.Ytlodlnbhjghjoaa.E
open Go Go.RowKit Go.Proofs
set_option linter.unusedVariables false
set_option linter.unusedSimpArgs false

theorem mgL_le {c : Crk} {p : Pnd} {r : Int × Int} (h : c.vals.length ≤ 1048576 ∧ c.rows.length ≤ 1048576 ∧ c.piv.length ≤ 1048576) (h' : p.ins.length ≤ 1048576 ∧ p.del.length ≤ 1048576) : ((mgC c p r).vals.length ≤ 1048576 ∧ (mgC c p r).rows.length ≤ 1048576 ∧ (mgC c p r).piv.length ≤ 1048576) ∧ (mgP c p r).ins.length ≤ 1048576 ∧ (mgP c p r).del.length ≤ 1048576 := by
  cases hk : mgK c p r
  · simp only [mgC, mgP, hk, Bool.false_eq_true, if_false]; exact ⟨h, h'⟩
  · have hp := pnd_ok (mgK_parts hk).1
    have I := mD_ok hp r p.del.length (Nat.le_refl _)
    have J := mI_ok hp r p.ins.length (Nat.le_refl _)
    have h1 := I.ll
    have h2 := J.ll
    have h3 := crk_lens ((crk_iff _).2 J.ok)
    simp only [mgC, mgP, hk, if_true]
    have := hp.il
    have := hp.dl
    omega

theorem e_tidy_A106_0 {P : Program} {N : Nat} {s : Slots} {R : List Res} {Q : Exit → Slots → List Res → Prop} {c : Code} (keep : List Nat) {base : Slots} {R' : List Res} (h : ECode P N c base R' Q) (hb : keepOf s keep = base := by simp only [E.keepOf, E.get, E.ev, E.cv, E.fill', E.fill, E.slotsOf, Res.sh, AC.sh, AC.sh.shs, AV.sh, E.splice, List.map_cons, List.map_nil, List.cons_append, List.nil_append, List.append_nil, List.length_cons, List.length_nil, List.take_zero, List.drop_zero, List.take_succ_cons, List.drop_succ_cons, List.drop_nil, List.take_nil, List.set_cons_zero, List.set_cons_succ, Nat.zero_add, Nat.add_zero, Nat.reduceAdd, Nat.reduceSub, reduceIte, Nat.reduceEqDiff, E.back, E.backR, E.ix, Res.un, AC.un, AC.un.uns, AV.un, E.un, Option.map_some, Option.map_none, Option.getD_some, List.getElem?_cons_zero, List.getElem?_cons_succ, List.getElem?_nil, crkO, crkR, pndO, pndR]; rfl) (hR : R = R' := by (try simp only [E.keepOf, E.get, E.ev, E.cv, E.fill', E.fill, E.slotsOf, Res.sh, AC.sh, AC.sh.shs, AV.sh, E.splice, List.map_cons, List.map_nil, List.cons_append, List.nil_append, List.append_nil, List.length_cons, List.length_nil, List.take_zero, List.drop_zero, List.take_succ_cons, List.drop_succ_cons, List.drop_nil, List.take_nil, List.set_cons_zero, List.set_cons_succ, Nat.zero_add, Nat.add_zero, Nat.reduceAdd, Nat.reduceSub, reduceIte, Nat.reduceEqDiff, E.back, E.backR, E.ix, Res.un, AC.un, AC.un.uns, AV.un, E.un, Option.map_some, Option.map_none, Option.getD_some, List.getElem?_cons_zero, List.getElem?_cons_succ, List.getElem?_nil, crkO, crkR, pndO, pndR]); rfl) : ECode P N c s R Q := E_tidy keep hb hR h

set_option maxRecDepth 20000 in
set_option maxHeartbeats 4000000 in
theorem c_laws_FnExactMergeRange (c : Crk) (p : Pnd) (x : Int × Int) : EFn Try.prog 3 [.agg (crkC c), .agg (pndC p), .agg [.sc (.int .i64 x.1), .sc (.int .i64 x.2)]] [] (fun r S => r = .c (.sc (.bool true)) ∧ S = []) := by
  refine E_fn Try.func3 rfl (Nat.le_of_ble_eq_true rfl) ?_
  refine E_seq ?_
  refine E_region' (L := [0, 1, 2, 3]) rfl ?_
  refine x_box rfl rfl rfl rfl rfl ?_
  refine x_box rfl rfl rfl rfl rfl ?_
  refine x_box rfl rfl rfl rfl rfl ?_
  refine x_pure rfl rfl rfl (L_assign rfl) ?_
  refine EOps_nil ?_
  refine E_seq ?_
  refine E_region' (L := [0]) rfl ?_
  refine x_pure rfl rfl rfl (L_assign rfl) ?_
  refine EOps_nil ?_
  refine E_seq ?_
  refine e_tidy_A106_0 [0, 1, 2, 3, 4, 5, 6, 7] ?_
  refine E_region' (L := [0, 1, 2, 3]) rfl ?_
  refine x_light rfl rfl rfl (L_load rfl (by first | exact d_bp ty_25 | exact ld_rp ty_25 rfl | exact d_ep ty_25)) ?_
  refine x_pure rfl rfl rfl (L_move rfl) ?_
  refine x_call rfl rfl rfl rfl rfl ca_5 (c_laws_szCracker (c) (1048576) (by omega)) ?_
  rintro r S ⟨rfl, rfl⟩
  refine x_pure rfl rfl rfl (L_assign rfl) ?_
  refine EOps_nil ?_
  refine E_seq ?_
  refine E_seq ?_
  refine E_region' (L := [0, 1]) rfl ?_
  refine x_pure rfl rfl rfl (L_move rfl) ?_
  refine x_pure rfl rfl rfl (L_bin rfl rfl rfl rfl) ?_
  refine EOps_nil ?_
  refine E_cond rfl (fun hc26 => ?_) (fun hc26 => ?_)
  · refine E_seq ?_
    refine E_region' (L := [0]) rfl ?_
    refine x_pure rfl rfl rfl (L_assign rfl) ?_
    refine EOps_nil ?_
    refine E_ret ?_
    refine ⟨_, [], rfl, rfl, ?_, rfl⟩
    simp [AV.ren, ren_sc, ren_ro, AC.ren, AC.ren.rens, ix, rv1, E.get, E.ev, E.cv, E.fill', E.fill, E.slotsOf, *]
  · have h0 : ¬ szR (1048576) (c.vals.length + c.rows.length + c.piv.length) < 0 := by simpa using hc26
    have hl0 := szR_le h0
    have hr0 := szR_rng (l := 1048576) (n := c.vals.length + c.rows.length + c.piv.length) (by omega)
    have ha0 : c.vals.length ≤ 1048576 ∧ c.rows.length ≤ 1048576 ∧ c.piv.length ≤ 1048576 := by omega
    refine E_skip ?_
    refine E_seq ?_
    refine e_tidy_A106_0 [0, 1, 2, 3, 4, 5, 6, 7, 26] ?_
    refine E_region' (L := [0, 1, 2, 3]) rfl ?_
    refine x_light rfl rfl rfl (L_load rfl (by first | exact d_bp ty_28 | exact ld_rp ty_28 rfl | exact d_ep ty_28)) ?_
    refine x_pure rfl rfl rfl (L_move rfl) ?_
    refine x_call rfl rfl rfl rfl rfl ca_6 (c_laws_szPending (p) (szR (1048576) (c.vals.length + c.rows.length + c.piv.length)) hr0) ?_
    rintro r S ⟨rfl, rfl⟩
    refine x_pure rfl rfl rfl (L_assign rfl) ?_
    refine EOps_nil ?_
    refine E_seq ?_
    refine E_seq ?_
    refine E_region' (L := [0, 1]) rfl ?_
    refine x_pure rfl rfl rfl (L_move rfl) ?_
    refine x_pure rfl rfl rfl (L_bin rfl rfl rfl rfl) ?_
    refine EOps_nil ?_
    refine E_cond rfl (fun hc31 => ?_) (fun hc31 => ?_)
    · refine E_seq ?_
      refine E_region' (L := [0]) rfl ?_
      refine x_pure rfl rfl rfl (L_assign rfl) ?_
      refine EOps_nil ?_
      refine E_ret ?_
      refine ⟨_, [], rfl, rfl, ?_, rfl⟩
      simp [AV.ren, ren_sc, ren_ro, AC.ren, AC.ren.rens, ix, rv1, E.get, E.ev, E.cv, E.fill', E.fill, E.slotsOf, *]
    · have h1 : ¬ szR (szR (1048576) (c.vals.length + c.rows.length + c.piv.length)) (p.ins.length + p.del.length) < 0 := by simpa using hc31
      have hl1 := szR_le h1
      have hr1 := szR_rng (l := szR (1048576) (c.vals.length + c.rows.length + c.piv.length)) (n := p.ins.length + p.del.length) hr0
      have ha1 : p.ins.length ≤ 1048576 ∧ p.del.length ≤ 1048576 := by omega
      have hw := c_spec_MergeRange c p x ⟨ha0, ha1⟩
      have hg := c_impl_MergeRange c p x ⟨ha0, ha1⟩
      have hle01 := mgL_le (c := c) (p := p) (r := x) ha0 ha1
      have hle0 := hle01.1
      have hle1 := hle01.2
      generalize mgC c p x = q at hw hg hle0
      generalize mgP c p x = t at hw hg hle1
      generalize mgN c p x = n at hw hg
      refine E_skip ?_
      refine E_seq ?_
      refine e_tidy_A106_0 [0, 1, 2, 3, 4, 5, 6, 7, 26, 31] ?_
      refine E_drawT mixed ?_
      refine t_light 0 rfl rfl rfl (L_load rfl (by first | exact d_bp ty_25 | exact ld_rp ty_25 rfl | exact d_ep ty_25)) ?_
      refine t_light 2 rfl rfl rfl (L_load rfl (by first | exact d_bp ty_28 | exact ld_rp ty_28 rfl | exact d_ep ty_28)) ?_
      refine t_light 4 rfl rfl rfl (L_load rfl (by first | exact d_bp ty_30 | exact ld_rp ty_30 rfl | exact d_ep ty_30)) ?_
      refine t_main 3 [(⟨none, 11, 8, 0⟩, _), (⟨none, 12, 9, 0⟩, _)] [(1, false), (3, false), (5, false), (6, false), (7, true), (8, true), (9, true), (10, true)] [34, 36, 38, 39, 32, 40, 41, 42] [(8, .any), (9, .any), (34, .any), (36, .any), (38, .any), (39, .any), (32, .any), (40, .any), (41, .any), (42, .any)] [1, 3, 5, 6, 7, 8, 9, 10, 11, 12] ⟨.one rfl rfl rfl (by decide) (F_alloc rfl za_35), .one rfl rfl rfl (by decide) (F_alloc rfl za_38), trivial⟩ ?_
      refine m_call rfl rfl rfl rfl rfl ca_8 (c_laws_toCracker c ha0) ?_
      rintro r S ⟨rfl, rfl⟩
      refine m_call rfl rfl rfl rfl rfl ca_9 (c_laws_toPending p ha1) ?_
      rintro r S ⟨rfl, rfl⟩
      refine m_call rfl rfl rfl rfl rfl ca_10 (c_laws_toRange x.1 x.2) ?_
      rintro r S ⟨rfl, rfl⟩
      refine m_call rfl rfl rfl rfl rfl ca_7 (hw) ?_
      rintro r S ⟨rfl, rfl⟩
      refine m_pure rfl rfl rfl (L_move rfl) ?_
      refine m_pure rfl rfl rfl (L_extract rfl rfl) ?_
      refine m_pure rfl rfl rfl (L_extract rfl rfl) ?_
      refine m_pure rfl rfl rfl (L_extract rfl rfl) ?_
      refine m_done ?_
      refine fk_cons ?_
      rintro r S ⟨rfl, rfl⟩
      refine fk_cons ?_
      rintro r S ⟨rfl, rfl⟩
      refine fk_nil ?_
      refine t_turn 13 rfl rfl (EOp_store rfl rfl rfl (by first | exact s_bp ty_35 | exact s_ep ty_35) ?_)
      refine t_turn 14 rfl rfl (EOp_store rfl rfl rfl (by first | exact s_bp ty_38 | exact s_ep ty_38) ?_)
      refine t_old 15 rfl rfl rfl (L_assign rfl) ?_
      refine T_done (by kernel_rfl) ?_
      refine E_seq ?_
      refine e_tidy_A106_0 [0, 1, 2, 3, 4, 5, 6, 7, 8, 9, 10, 26, 31] ?_
      refine E_region' (L := [0, 1, 2, 3]) rfl ?_
      refine x_light rfl rfl rfl (L_load rfl (by first | exact d_bp ty_25 | exact ld_rp ty_25 rfl | exact d_ep ty_25)) ?_
      refine x_call rfl rfl rfl rfl rfl ca_8 (c_laws_toCracker c ha0) ?_
      rintro r S ⟨rfl, rfl⟩
      refine x_alloc rfl rfl rfl rfl za_35 ?_
      refine EOps_go rfl rfl (EOp_store rfl rfl rfl (by first | exact s_bp ty_35 | exact s_ep ty_35) ?_)
      refine EOps_nil ?_
      refine E_seq ?_
      refine e_tidy_A106_0 [0, 1, 2, 3, 4, 5, 6, 7, 8, 9, 10, 11, 26, 31] ?_
      refine E_region' (L := [0, 1, 2, 3]) rfl ?_
      refine x_light rfl rfl rfl (L_load rfl (by first | exact d_bp ty_28 | exact ld_rp ty_28 rfl | exact d_ep ty_28)) ?_
      refine x_call rfl rfl rfl rfl rfl ca_9 (c_laws_toPending p ha1) ?_
      rintro r S ⟨rfl, rfl⟩
      refine x_alloc rfl rfl rfl rfl za_38 ?_
      refine EOps_go rfl rfl (EOp_store rfl rfl rfl (by first | exact s_bp ty_38 | exact s_ep ty_38) ?_)
      refine EOps_nil ?_
      refine E_seq ?_
      refine e_tidy_A106_0 [0, 1, 2, 3, 4, 5, 6, 7, 8, 9, 10, 11, 12, 26, 31] ?_
      refine E_drawT mixed ?_
      refine t_light 0 rfl rfl rfl (L_load rfl (by first | exact d_bp ty_35 | exact ld_rp ty_35 rfl | exact d_ep ty_35)) ?_
      refine t_light 1 rfl rfl rfl (L_load rfl (by first | exact d_bp ty_38 | exact ld_rp ty_38 rfl | exact d_ep ty_38)) ?_
      refine t_light 2 rfl rfl rfl (L_load rfl (by first | exact d_bp ty_30 | exact ld_rp ty_30 rfl | exact d_ep ty_30)) ?_
      refine t_main 3 [(⟨none, 9, 13, 0⟩, _), (⟨none, 10, 14, 0⟩, _)] [(3, false), (4, false), (5, true), (6, true), (7, true), (8, true)] [51, 52, 47, 53, 54, 55] [(13, .any), (14, .any), (51, .any), (52, .any), (47, .any), (53, .any), (54, .any), (55, .any)] [3, 4, 5, 6, 7, 8, 9, 10] ⟨.one rfl rfl rfl (by decide) (F_alloc rfl za_35), .one rfl rfl rfl (by decide) (F_alloc rfl za_38), trivial⟩ ?_
      refine m_call rfl rfl rfl rfl rfl ca_10 (c_laws_toRange x.1 x.2) ?_
      rintro r S ⟨rfl, rfl⟩
      refine m_call rfl rfl rfl rfl rfl ca_11 (hg) ?_
      rintro r S ⟨rfl, rfl⟩
      refine m_pure rfl rfl rfl (L_move rfl) ?_
      refine m_pure rfl rfl rfl (L_extract rfl rfl) ?_
      refine m_pure rfl rfl rfl (L_extract rfl rfl) ?_
      refine m_pure rfl rfl rfl (L_extract rfl rfl) ?_
      refine m_done ?_
      refine fk_cons ?_
      rintro r S ⟨rfl, rfl⟩
      refine fk_cons ?_
      rintro r S ⟨rfl, rfl⟩
      refine fk_nil ?_
      refine t_turn 11 rfl rfl (EOp_store rfl rfl rfl (by first | exact s_bp ty_35 | exact s_ep ty_35) ?_)
      refine t_turn 12 rfl rfl (EOp_store rfl rfl rfl (by first | exact s_bp ty_38 | exact s_ep ty_38) ?_)
      refine t_old 13 rfl rfl rfl (L_assign rfl) ?_
      refine T_done (by kernel_rfl) ?_
      refine E_seq ?_
      refine E_seq ?_
      refine e_tidy_A106_0 [0, 1, 2, 3, 4, 5, 6, 7, 8, 9, 10, 11, 12, 13, 14, 15, 26, 31] ?_
      refine E_region' (L := [0, 1, 2, 3, 4, 5, 6, 7, 8, 9, 10, 11, 12, 13, 14]) rfl ?_
      refine x_light rfl rfl rfl (L_load rfl (by first | exact d_bp ty_35 | exact ld_rp ty_35 rfl | exact d_ep ty_35)) ?_
      refine x_light rfl rfl rfl (L_load rfl (by first | exact d_bp ty_35 | exact ld_rp ty_35 rfl | exact d_ep ty_35)) ?_
      refine x_call rfl rfl rfl rfl rfl ca_12 (c_laws_eqCracker q q) ?_
      rintro r S ⟨rfl, rfl⟩
      refine x_pure rfl rfl rfl (L_not rfl rfl) ?_
      refine x_pure rfl rfl rfl (L_move rfl) ?_
      refine EOps_split 60 (b := _) rfl (fun hg60 => ?_) (fun hg60 => ?_)
      · first | (simp at hg60; done) | (simp at hg60; omega)
      · refine x_light rfl rfl rfl (L_load rfl (by first | exact d_bp ty_38 | exact ld_rp ty_38 rfl | exact d_ep ty_38)) ?_
        refine x_light rfl rfl rfl (L_load rfl (by first | exact d_bp ty_38 | exact ld_rp ty_38 rfl | exact d_ep ty_38)) ?_
        refine x_call rfl rfl rfl rfl rfl ca_13 (c_laws_eqPending t t) ?_
        rintro r S ⟨rfl, rfl⟩
        refine x_pure rfl rfl rfl (L_not rfl rfl) ?_
        refine x_pure rfl rfl rfl (L_pick rfl rfl) ?_
        refine x_pure rfl rfl rfl (L_move rfl) ?_
        refine EOps_split 66 (b := _) rfl (fun hg66 => ?_) (fun hg66 => ?_)
        · first | (simp at hg66; done) | (simp at hg66; omega)
        · refine x_pure rfl rfl rfl (L_move rfl) ?_
          refine x_pure rfl rfl rfl (L_move rfl) ?_
          refine x_pure rfl rfl rfl (L_bin rfl rfl rfl rfl) ?_
          refine x_pure rfl rfl rfl (L_pick rfl rfl) ?_
          refine EOps_nil ?_
          refine E_cond rfl (fun hc70 => ?_) (fun hc70 => ?_)
          · first | (simp at hc70; done) | (simp at hc70; omega)
          · refine E_skip ?_
            refine E_seq ?_
            refine E_seq ?_
            refine e_tidy_A106_0 [0, 1, 2, 3, 4, 5, 6, 7, 8, 9, 10, 11, 12, 13, 14, 15, 26, 31, 70] ?_
            refine E_drawT mixed ?_
            refine t_light 0 rfl rfl rfl (L_load rfl (by first | exact d_bp ty_35 | exact ld_rp ty_35 rfl | exact d_ep ty_35)) ?_
            refine t_light 1 rfl rfl rfl (L_load rfl (by first | exact d_bp ty_25 | exact ld_rp ty_25 rfl | exact d_ep ty_25)) ?_
            refine t_call 2 rfl rfl rfl rfl rfl ca_8 (c_laws_toCracker c ha0) ?_
            rintro r S ⟨rfl, rfl⟩
            refine t_call 3 rfl rfl rfl rfl rfl ca_12 (c_laws_eqCracker c c) ?_
            rintro r S ⟨rfl, rfl⟩
            refine t_old 4 rfl rfl rfl (L_not rfl rfl) ?_
            refine T_done (by kernel_rfl) ?_
            refine E_cond rfl (fun hc75 => ?_) (fun hc75 => ?_)
            · first | (simp at hc75; done) | (simp at hc75; omega)
            · refine E_skip ?_
              refine E_seq ?_
              refine E_seq ?_
              refine e_tidy_A106_0 [0, 1, 2, 3, 4, 5, 6, 7, 8, 9, 10, 11, 12, 13, 14, 15, 26, 31, 70, 75] ?_
              refine E_drawT mixed ?_
              refine t_light 0 rfl rfl rfl (L_load rfl (by first | exact d_bp ty_38 | exact ld_rp ty_38 rfl | exact d_ep ty_38)) ?_
              refine t_light 1 rfl rfl rfl (L_load rfl (by first | exact d_bp ty_28 | exact ld_rp ty_28 rfl | exact d_ep ty_28)) ?_
              refine t_call 2 rfl rfl rfl rfl rfl ca_9 (c_laws_toPending p ha1) ?_
              rintro r S ⟨rfl, rfl⟩
              refine t_call 3 rfl rfl rfl rfl rfl ca_13 (c_laws_eqPending p p) ?_
              rintro r S ⟨rfl, rfl⟩
              refine t_old 4 rfl rfl rfl (L_not rfl rfl) ?_
              refine T_done (by kernel_rfl) ?_
              refine E_cond rfl (fun hc80 => ?_) (fun hc80 => ?_)
              · first | (simp at hc80; done) | (simp at hc80; omega)
              · refine E_skip ?_
                refine E_seq ?_
                refine E_region' (L := [0]) rfl ?_
                refine x_pure rfl rfl rfl (L_assign rfl) ?_
                refine EOps_nil ?_
                refine E_seq ?_
                refine e_tidy_A106_0 [0, 1, 2, 3, 4, 5, 6, 7, 8, 9, 10, 11, 12, 13, 14, 15, 16, 26, 31, 70, 75, 80] ?_
                refine E_region' (L := [0, 1, 2, 3]) rfl ?_
                refine x_light rfl rfl rfl (L_load rfl (by first | exact d_bp ty_35 | exact ld_rp ty_35 rfl | exact d_ep ty_35)) ?_
                refine x_pure rfl rfl rfl (L_move rfl) ?_
                refine x_frame [15, 16, 17] rfl rfl rfl rfl rfl ca_14 rfl (c_laws_markCracker _ _ _ (1) c _ _ _ rfl rfl rfl ha0 (by omega)) ?_
                rintro r S ⟨r0, S0, ⟨rfl, rfl⟩, rfl, rfl⟩
                refine x_pure rfl rfl rfl (L_assign rfl) ?_
                refine EOps_nil ?_
                refine E_seq ?_
                refine e_tidy_A106_0 [0, 1, 2, 3, 4, 5, 6, 7, 8, 9, 10, 11, 12, 13, 14, 15, 16, 26, 31, 70, 75, 80] ?_
                refine E_region' (L := [0, 1, 2, 3]) rfl ?_
                refine x_light rfl rfl rfl (L_load rfl (by first | exact d_bp ty_38 | exact ld_rp ty_38 rfl | exact d_ep ty_38)) ?_
                refine x_pure rfl rfl rfl (L_move rfl) ?_
                refine x_frame [19, 20] rfl rfl rfl rfl rfl ca_15 rfl (c_laws_markPending _ _ (1 + c.vals.length + c.rows.length + 2 * c.piv.length) p _ _ rfl rfl ha1 (by omega)) ?_
                rintro r S ⟨r0, S0, ⟨rfl, rfl⟩, rfl, rfl⟩
                refine x_pure rfl rfl rfl (L_assign rfl) ?_
                refine EOps_nil ?_
                refine E_seq ?_
                refine E_seq ?_
                refine e_tidy_A106_0 [0, 1, 2, 3, 4, 5, 6, 7, 8, 9, 10, 11, 12, 13, 14, 15, 16, 26, 31, 70, 75, 80] ?_
                refine E_region' (L := [0, 1, 2, 3, 4, 5, 6, 7, 8, 9, 10, 11, 12, 13, 14, 15, 16, 17, 18]) rfl ?_
                refine x_pure rfl rfl rfl (L_move rfl) ?_
                refine x_pure rfl rfl rfl (L_bin rfl rfl rfl rfl) ?_
                refine x_pure rfl rfl rfl (L_move rfl) ?_
                refine EOps_split 89 (b := _) rfl (fun hg89 => ?_) (fun hg89 => ?_)
                · first | (simp at hg89; done) | (simp at hg89; omega)
                · refine x_light rfl rfl rfl (L_load rfl (by first | exact d_bp ty_35 | exact ld_rp ty_35 rfl | exact d_ep ty_35)) ?_
                  refine x_light rfl rfl rfl (L_load rfl (by first | exact d_bp ty_35 | exact ld_rp ty_35 rfl | exact d_ep ty_35)) ?_
                  refine x_call rfl rfl rfl rfl rfl ca_12 (c_laws_eqCracker q q) ?_
                  rintro r S ⟨rfl, rfl⟩
                  refine x_pure rfl rfl rfl (L_not rfl rfl) ?_
                  refine x_pure rfl rfl rfl (L_pick rfl rfl) ?_
                  refine x_pure rfl rfl rfl (L_move rfl) ?_
                  refine EOps_split 95 (b := _) rfl (fun hg95 => ?_) (fun hg95 => ?_)
                  · first | (simp at hg95; done) | (simp at hg95; omega)
                  · refine x_light rfl rfl rfl (L_load rfl (by first | exact d_bp ty_38 | exact ld_rp ty_38 rfl | exact d_ep ty_38)) ?_
                    refine x_light rfl rfl rfl (L_load rfl (by first | exact d_bp ty_38 | exact ld_rp ty_38 rfl | exact d_ep ty_38)) ?_
                    refine x_call rfl rfl rfl rfl rfl ca_13 (c_laws_eqPending t t) ?_
                    rintro r S ⟨rfl, rfl⟩
                    refine x_pure rfl rfl rfl (L_not rfl rfl) ?_
                    refine x_pure rfl rfl rfl (L_pick rfl rfl) ?_
                    refine x_pure rfl rfl rfl (L_move rfl) ?_
                    refine EOps_split 101 (b := _) rfl (fun hg101 => ?_) (fun hg101 => ?_)
                    · first | (simp at hg101; done) | (simp at hg101; omega)
                    · refine x_pure rfl rfl rfl (L_move rfl) ?_
                      refine x_pure rfl rfl rfl (L_move rfl) ?_
                      refine x_pure rfl rfl rfl (L_bin rfl rfl rfl rfl) ?_
                      refine x_pure rfl rfl rfl (L_pick rfl rfl) ?_
                      refine EOps_nil ?_
                      refine E_cond rfl (fun hc105 => ?_) (fun hc105 => ?_)
                      · first | (simp at hc105; done) | (simp at hc105; omega)
                      · refine E_skip ?_
                        refine E_seq ?_
                        refine E_region' (L := [0]) rfl ?_
                        refine x_pure rfl rfl rfl (L_assign rfl) ?_
                        refine EOps_nil ?_
                        refine E_seq ?_
                        refine e_tidy_A106_0 [0, 1, 2, 3, 4, 5, 6, 7, 8, 9, 10, 11, 12, 13, 14, 15, 16, 17, 26, 31, 70, 75, 80, 105] ?_
                        refine E_region' (L := [0, 1, 2, 3]) rfl ?_
                        refine x_light rfl rfl rfl (L_load rfl (by first | exact d_bp ty_35 | exact ld_rp ty_35 rfl | exact d_ep ty_35)) ?_
                        refine x_pure rfl rfl rfl (L_move rfl) ?_
                        refine x_frame [22, 23, 24] rfl rfl rfl rfl rfl ca_14 rfl (c_laws_markCracker _ _ _ (1) q _ _ _ rfl rfl rfl hle0 (by omega)) ?_
                        rintro r S ⟨r0, S0, ⟨rfl, rfl⟩, rfl, rfl⟩
                        refine x_pure rfl rfl rfl (L_assign rfl) ?_
                        refine EOps_nil ?_
                        refine E_seq ?_
                        refine e_tidy_A106_0 [0, 1, 2, 3, 4, 5, 6, 7, 8, 9, 10, 11, 12, 13, 14, 15, 16, 17, 26, 31, 70, 75, 80, 105] ?_
                        refine E_region' (L := [0, 1, 2, 3]) rfl ?_
                        refine x_light rfl rfl rfl (L_load rfl (by first | exact d_bp ty_38 | exact ld_rp ty_38 rfl | exact d_ep ty_38)) ?_
                        refine x_pure rfl rfl rfl (L_move rfl) ?_
                        refine x_frame [25, 26] rfl rfl rfl rfl rfl ca_15 rfl (c_laws_markPending _ _ (1 + q.vals.length + q.rows.length + 2 * q.piv.length) t _ _ rfl rfl hle1 (by omega)) ?_
                        rintro r S ⟨r0, S0, ⟨rfl, rfl⟩, rfl, rfl⟩
                        refine x_pure rfl rfl rfl (L_assign rfl) ?_
                        refine EOps_nil ?_
                        refine E_seq ?_
                        refine E_region' (L := [0]) rfl ?_
                        refine x_pure rfl rfl rfl (L_assign rfl) ?_
                        refine EOps_nil ?_
                        refine E_seq ?_
                        refine e_tidy_A106_0 [0, 1, 2, 3, 4, 5, 6, 7, 8, 9, 10, 11, 12, 13, 14, 15, 16, 17, 18, 26, 31, 70, 75, 80, 105] ?_
                        refine E_region' (L := [0, 1, 2, 3]) rfl ?_
                        refine x_light rfl rfl rfl (L_load rfl (by first | exact d_bp ty_35 | exact ld_rp ty_35 rfl | exact d_ep ty_35)) ?_
                        refine x_pure rfl rfl rfl (L_move rfl) ?_
                        refine x_call rfl rfl rfl rfl rfl ca_16 (c_laws_heldCracker (1) (q.vals.length) (q.rows.length) (q.piv.length) hle0 (by omega)) ?_ (ha := by exact cons_eq (agg_eq (cons_eq (lendC_whole rfl (by simp [ints_len, seqF_len])) (cons_eq (lendC_whole rfl (by simp [ints_len, seqF_len])) (cons_eq (lendC_whole rfl (by simp [pairs_len, seqP_len])) rfl)))) (cons_eq rfl rfl))
                        rintro r S ⟨rfl, rfl⟩
                        refine x_pure rfl rfl rfl (L_assign rfl) ?_
                        refine EOps_nil ?_
                        refine E_seq ?_
                        refine E_seq ?_
                        refine E_region' (L := [0, 1]) rfl ?_
                        refine x_pure rfl rfl rfl (L_move rfl) ?_
                        refine x_pure rfl rfl rfl (L_bin rfl rfl rfl rfl) ?_
                        refine EOps_nil ?_
                        refine E_cond rfl (fun hc116 => ?_) (fun hc116 => ?_)
                        · first | (simp at hc116; done) | (simp at hc116; omega)
                        · refine E_skip ?_
                          refine E_seq ?_
                          refine e_tidy_A106_0 [0, 1, 2, 3, 4, 5, 6, 7, 8, 9, 10, 11, 12, 13, 14, 15, 16, 17, 18, 26, 31, 70, 75, 80, 105, 116] ?_
                          refine E_region' (L := [0, 1, 2, 3]) rfl ?_
                          refine x_light rfl rfl rfl (L_load rfl (by first | exact d_bp ty_38 | exact ld_rp ty_38 rfl | exact d_ep ty_38)) ?_
                          refine x_pure rfl rfl rfl (L_move rfl) ?_
                          refine x_call rfl rfl rfl rfl rfl ca_17 (c_laws_heldPending (1 + q.vals.length + q.rows.length + 2 * q.piv.length) (t.ins.length) (t.del.length) hle1 (by omega)) ?_ (ha := by exact cons_eq (agg_eq (cons_eq (lendC_whole rfl (by simp [pairs_len, seqP_len])) (cons_eq (lendC_whole rfl (by simp [ints_len, seqF_len])) rfl))) (cons_eq rfl rfl))
                          rintro r S ⟨rfl, rfl⟩
                          refine x_pure rfl rfl rfl (L_assign rfl) ?_
                          refine EOps_nil ?_
                          refine E_seq ?_
                          refine E_seq ?_
                          refine E_region' (L := [0, 1]) rfl ?_
                          refine x_pure rfl rfl rfl (L_move rfl) ?_
                          refine x_pure rfl rfl rfl (L_bin rfl rfl rfl rfl) ?_
                          refine EOps_nil ?_
                          refine E_cond rfl (fun hc121 => ?_) (fun hc121 => ?_)
                          · first | (simp at hc121; done) | (simp at hc121; omega)
                          · refine E_skip ?_
                            refine E_seq ?_
                            refine E_seq ?_
                            refine E_region' (L := [0, 1, 2]) rfl ?_
                            refine x_pure rfl rfl rfl (L_move rfl) ?_
                            refine x_pure rfl rfl rfl (L_move rfl) ?_
                            refine x_pure rfl rfl rfl (L_bin rfl rfl rfl rfl) ?_
                            refine EOps_nil ?_
                            refine E_cond rfl (fun hc124 => ?_) (fun hc124 => ?_)
                            · first | (simp at hc124; done) | (simp at hc124; omega)
                            · refine E_skip ?_
                              refine E_seq ?_
                              refine e_tidy_A106_0 [0, 1, 2, 3, 4, 5, 6, 7, 8, 9, 10, 11, 12, 13, 14, 15, 16, 17, 18, 26, 31, 70, 75, 80, 105, 116, 121, 124] ?_
                              refine E_drawT mixed ?_
                              refine t_light 0 rfl rfl rfl (L_load rfl (by first | exact d_bp ty_25 | exact ld_rp ty_25 rfl | exact d_ep ty_25)) ?_
                              refine t_light 2 rfl rfl rfl (L_load rfl (by first | exact d_bp ty_28 | exact ld_rp ty_28 rfl | exact d_ep ty_28)) ?_
                              refine t_light 4 rfl rfl rfl (L_load rfl (by first | exact d_bp ty_30 | exact ld_rp ty_30 rfl | exact d_ep ty_30)) ?_
                              refine t_main 3 [(⟨none, 11, 19, 0⟩, _), (⟨none, 12, 20, 0⟩, _)] [(1, false), (3, false), (5, false), (6, false), (7, true), (8, true), (9, true), (10, true)] [127, 129, 131, 132, 125, 133, 134, 135] [(19, .any), (20, .any), (127, .any), (129, .any), (131, .any), (132, .any), (125, .any), (133, .any), (134, .any), (135, .any)] [1, 3, 5, 6, 7, 8, 9, 10, 11, 12] ⟨.one rfl rfl rfl (by decide) (F_alloc rfl za_35), .one rfl rfl rfl (by decide) (F_alloc rfl za_38), trivial⟩ ?_
                              refine m_call rfl rfl rfl rfl rfl ca_8 (c_laws_toCracker c ha0) ?_
                              rintro r S ⟨rfl, rfl⟩
                              refine m_call rfl rfl rfl rfl rfl ca_9 (c_laws_toPending p ha1) ?_
                              rintro r S ⟨rfl, rfl⟩
                              refine m_call rfl rfl rfl rfl rfl ca_10 (c_laws_toRange x.1 x.2) ?_
                              rintro r S ⟨rfl, rfl⟩
                              refine m_call rfl rfl rfl rfl rfl ca_11 (hg) ?_
                              rintro r S ⟨rfl, rfl⟩
                              refine m_pure rfl rfl rfl (L_move rfl) ?_
                              refine m_pure rfl rfl rfl (L_extract rfl rfl) ?_
                              refine m_pure rfl rfl rfl (L_extract rfl rfl) ?_
                              refine m_pure rfl rfl rfl (L_extract rfl rfl) ?_
                              refine m_done ?_
                              refine fk_cons ?_
                              rintro r S ⟨rfl, rfl⟩
                              refine fk_cons ?_
                              rintro r S ⟨rfl, rfl⟩
                              refine fk_nil ?_
                              refine t_turn 13 rfl rfl (EOp_store rfl rfl rfl (by first | exact s_bp ty_35 | exact s_ep ty_35) ?_)
                              refine t_turn 14 rfl rfl (EOp_store rfl rfl rfl (by first | exact s_bp ty_38 | exact s_ep ty_38) ?_)
                              refine t_old 15 rfl rfl rfl (L_assign rfl) ?_
                              refine T_done (by kernel_rfl) ?_
                              refine E_seq ?_
                              refine E_seq ?_
                              refine e_tidy_A106_0 [0, 1, 2, 3, 4, 5, 6, 7, 8, 9, 10, 11, 12, 13, 14, 15, 16, 17, 18, 19, 20, 21, 26, 31, 70, 75, 80, 105, 116, 121, 124] ?_
                              refine E_region' (L := [0, 1, 2, 3, 4, 5, 6, 7, 8, 9, 10, 11, 12, 13, 14]) rfl ?_
                              refine x_light rfl rfl rfl (L_load rfl (by first | exact d_bp ty_35 | exact ld_rp ty_35 rfl | exact d_ep ty_35)) ?_
                              refine x_light rfl rfl rfl (L_load rfl (by first | exact d_bp ty_35 | exact ld_rp ty_35 rfl | exact d_ep ty_35)) ?_
                              refine x_call rfl rfl rfl rfl rfl ca_12 (c_laws_eqCracker q q) ?_
                              rintro r S ⟨rfl, rfl⟩
                              refine x_pure rfl rfl rfl (L_not rfl rfl) ?_
                              refine x_pure rfl rfl rfl (L_move rfl) ?_
                              refine EOps_split 140 (b := _) rfl (fun hg140 => ?_) (fun hg140 => ?_)
                              · first | (simp at hg140; done) | (simp at hg140; omega)
                              · refine x_light rfl rfl rfl (L_load rfl (by first | exact d_bp ty_38 | exact ld_rp ty_38 rfl | exact d_ep ty_38)) ?_
                                refine x_light rfl rfl rfl (L_load rfl (by first | exact d_bp ty_38 | exact ld_rp ty_38 rfl | exact d_ep ty_38)) ?_
                                refine x_call rfl rfl rfl rfl rfl ca_13 (c_laws_eqPending t t) ?_
                                rintro r S ⟨rfl, rfl⟩
                                refine x_pure rfl rfl rfl (L_not rfl rfl) ?_
                                refine x_pure rfl rfl rfl (L_pick rfl rfl) ?_
                                refine x_pure rfl rfl rfl (L_move rfl) ?_
                                refine EOps_split 146 (b := _) rfl (fun hg146 => ?_) (fun hg146 => ?_)
                                · first | (simp at hg146; done) | (simp at hg146; omega)
                                · refine x_pure rfl rfl rfl (L_move rfl) ?_
                                  refine x_pure rfl rfl rfl (L_move rfl) ?_
                                  refine x_pure rfl rfl rfl (L_bin rfl rfl rfl rfl) ?_
                                  refine x_pure rfl rfl rfl (L_pick rfl rfl) ?_
                                  refine EOps_nil ?_
                                  refine E_cond rfl (fun hc150 => ?_) (fun hc150 => ?_)
                                  · first | (simp at hc150; done) | (simp at hc150; omega)
                                  · refine E_skip ?_
                                    refine E_seq ?_
                                    refine E_region' (L := [0]) rfl ?_
                                    refine x_pure rfl rfl rfl (L_assign rfl) ?_
                                    refine EOps_nil ?_
                                    refine E_seq ?_
                                    refine e_tidy_A106_0 [0, 1, 2, 3, 4, 5, 6, 7, 8, 9, 10, 11, 12, 13, 14, 15, 16, 17, 18, 19, 20, 21, 26, 31, 70, 75, 80, 105, 116, 121, 124, 150] ?_
                                    refine E_region' (L := [0, 1, 2, 3]) rfl ?_
                                    refine x_light rfl rfl rfl (L_load rfl (by first | exact d_bp ty_35 | exact ld_rp ty_35 rfl | exact d_ep ty_35)) ?_
                                    refine x_pure rfl rfl rfl (L_move rfl) ?_
                                    refine x_call rfl rfl rfl rfl rfl ca_16 (c_laws_heldCracker (1) (q.vals.length) (q.rows.length) (q.piv.length) hle0 (by omega)) ?_ (ha := by exact cons_eq (agg_eq (cons_eq (lendC_whole rfl (by simp [ints_len, seqF_len])) (cons_eq (lendC_whole rfl (by simp [ints_len, seqF_len])) (cons_eq (lendC_whole rfl (by simp [pairs_len, seqP_len])) rfl)))) (cons_eq rfl rfl))
                                    rintro r S ⟨rfl, rfl⟩
                                    refine x_pure rfl rfl rfl (L_assign rfl) ?_
                                    refine EOps_nil ?_
                                    refine E_seq ?_
                                    refine E_seq ?_
                                    refine E_region' (L := [0, 1]) rfl ?_
                                    refine x_pure rfl rfl rfl (L_move rfl) ?_
                                    refine x_pure rfl rfl rfl (L_bin rfl rfl rfl rfl) ?_
                                    refine EOps_nil ?_
                                    refine E_cond rfl (fun hc155 => ?_) (fun hc155 => ?_)
                                    · first | (simp at hc155; done) | (simp at hc155; omega)
                                    · refine E_skip ?_
                                      refine E_seq ?_
                                      refine e_tidy_A106_0 [0, 1, 2, 3, 4, 5, 6, 7, 8, 9, 10, 11, 12, 13, 14, 15, 16, 17, 18, 19, 20, 21, 26, 31, 70, 75, 80, 105, 116, 121, 124, 150, 155] ?_
                                      refine E_region' (L := [0, 1, 2, 3]) rfl ?_
                                      refine x_light rfl rfl rfl (L_load rfl (by first | exact d_bp ty_38 | exact ld_rp ty_38 rfl | exact d_ep ty_38)) ?_
                                      refine x_pure rfl rfl rfl (L_move rfl) ?_
                                      refine x_call rfl rfl rfl rfl rfl ca_17 (c_laws_heldPending (1 + q.vals.length + q.rows.length + 2 * q.piv.length) (t.ins.length) (t.del.length) hle1 (by omega)) ?_ (ha := by exact cons_eq (agg_eq (cons_eq (lendC_whole rfl (by simp [pairs_len, seqP_len])) (cons_eq (lendC_whole rfl (by simp [ints_len, seqF_len])) rfl))) (cons_eq rfl rfl))
                                      rintro r S ⟨rfl, rfl⟩
                                      refine x_pure rfl rfl rfl (L_assign rfl) ?_
                                      refine EOps_nil ?_
                                      refine E_seq ?_
                                      refine E_seq ?_
                                      refine E_region' (L := [0, 1]) rfl ?_
                                      refine x_pure rfl rfl rfl (L_move rfl) ?_
                                      refine x_pure rfl rfl rfl (L_bin rfl rfl rfl rfl) ?_
                                      refine EOps_nil ?_
                                      refine E_cond rfl (fun hc160 => ?_) (fun hc160 => ?_)
                                      · first | (simp at hc160; done) | (simp at hc160; omega)
                                      · refine E_skip ?_
                                        refine E_seq ?_
                                        refine E_seq ?_
                                        refine E_region' (L := [0, 1, 2]) rfl ?_
                                        refine x_pure rfl rfl rfl (L_move rfl) ?_
                                        refine x_pure rfl rfl rfl (L_move rfl) ?_
                                        refine x_pure rfl rfl rfl (L_bin rfl rfl rfl rfl) ?_
                                        refine EOps_nil ?_
                                        refine E_cond rfl (fun hc163 => ?_) (fun hc163 => ?_)
                                        · first | (simp at hc163; done) | (simp at hc163; omega)
                                        · refine E_skip ?_
                                          refine E_seq ?_
                                          refine E_region' (L := [0]) rfl ?_
                                          refine x_pure rfl rfl rfl (L_assign rfl) ?_
                                          refine EOps_nil ?_
                                          refine E_ret ?_
                                          refine ⟨_, [], rfl, rfl, ?_, rfl⟩
                                          simp [AV.ren, ren_sc, ren_ro, AC.ren, AC.ren.rens, ix, rv1, E.get, E.ev, E.cv, E.fill', E.fill, E.slotsOf, *]

end Go.Proofs.Ytlodlnbhjghjoaa.E
