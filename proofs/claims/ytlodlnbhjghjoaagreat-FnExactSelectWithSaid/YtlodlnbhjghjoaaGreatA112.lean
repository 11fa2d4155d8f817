/- Walks through functions, by program out of the session's annotations. -/
import Derived.Test.YtlodlnbhjghjoaaGreatA111
import Derived.Test.YtlodlnbhjghjoaaGreatA96
namespace Go.Proofs.YtlodlnbhjghjoaaGreat.E
open Go Go.RowKit Go.Proofs
set_option linter.unusedVariables false
set_option linter.unusedSimpArgs false

theorem e_tidy_A112_0 {P : Program} {N : Nat} {s : Slots} {R : List Res} {Q : Exit → Slots → List Res → Prop} {c : Code} (keep : List Nat) {base : Slots} {R' : List Res} (h : ECode P N c base R' Q) (hb : keepOf s keep = base := by simp only [E.keepOf, E.get, E.ev, E.cv, E.fill', E.fill, E.slotsOf, Res.sh, AC.sh, AC.sh.shs, AV.sh, E.splice, List.map_cons, List.map_nil, List.cons_append, List.nil_append, List.append_nil, List.length_cons, List.length_nil, List.take_zero, List.drop_zero, List.take_succ_cons, List.drop_succ_cons, List.drop_nil, List.take_nil, List.set_cons_zero, List.set_cons_succ, Nat.zero_add, Nat.add_zero, Nat.reduceAdd, Nat.reduceSub, reduceIte, Nat.reduceEqDiff, E.back, E.backR, E.ix, Res.un, AC.un, AC.un.uns, AV.un, E.un, Option.map_some, Option.map_none, Option.getD_some, List.getElem?_cons_zero, List.getElem?_cons_succ, List.getElem?_nil, crkO, crkR]; rfl) (hR : R = R' := by (try simp only [E.keepOf, E.get, E.ev, E.cv, E.fill', E.fill, E.slotsOf, Res.sh, AC.sh, AC.sh.shs, AV.sh, E.splice, List.map_cons, List.map_nil, List.cons_append, List.nil_append, List.append_nil, List.length_cons, List.length_nil, List.take_zero, List.drop_zero, List.take_succ_cons, List.drop_succ_cons, List.drop_nil, List.take_nil, List.set_cons_zero, List.set_cons_succ, Nat.zero_add, Nat.add_zero, Nat.reduceAdd, Nat.reduceSub, reduceIte, Nat.reduceEqDiff, E.back, E.backR, E.ix, Res.un, AC.un, AC.un.uns, AV.un, E.un, Option.map_some, Option.map_none, Option.getD_some, List.getElem?_cons_zero, List.getElem?_cons_succ, List.getElem?_nil, crkO, crkR]); rfl) : ECode P N c s R Q := E_tidy keep hb hR h

set_option maxRecDepth 20000 in
set_option maxHeartbeats 4000000 in
theorem c_laws_FnExactSelectWith (c : Crk) (s : Sett) (x : Int × Int) : EFn Tryz.prog 4 [.agg (crkC c), .agg (setC s), .agg [.sc (.int .i64 x.1), .sc (.int .i64 x.2)]] [] (fun r S => r = .c (.sc (.bool true)) ∧ S = []) := by
  refine E_fn Tryz.func4 rfl (Nat.le_of_ble_eq_true rfl) ?_
  refine E_seq ?_
  refine E_region' (L := [0, 1, 2, 3]) rfl ?_
  refine x_box rfl rfl rfl rfl rfl ?_
  refine x_box rfl rfl rfl rfl rfl ?_
  refine x_box rfl rfl rfl rfl rfl ?_
  refine x_pure rfl rfl rfl (L_assign rfl) ?_
  refine EOps_nil ?_
  refine E_seq ?_
  refine E_region' (L := [0]) rfl ?_
  refine x_pure rfl rfl rfl (L_assign rfl) ?_
  refine EOps_nil ?_
  refine E_seq ?_
  refine e_tidy_A112_0 [0, 1, 2, 3, 4, 5, 6, 7] ?_
  refine E_region' (L := [0, 1, 2, 3]) rfl ?_
  refine x_light rfl rfl rfl (L_load rfl (by first | exact d_bp ty_43 | exact ld_rp ty_43 rfl | exact d_ep ty_43)) ?_
  refine x_pure rfl rfl rfl (L_move rfl) ?_
  refine x_call rfl rfl rfl rfl rfl ca_25 (c_laws_szCracker (c) (1048576) (by omega)) ?_
  rintro r S ⟨rfl, rfl⟩
  refine x_pure rfl rfl rfl (L_assign rfl) ?_
  refine EOps_nil ?_
  refine E_seq ?_
  refine E_seq ?_
  refine E_region' (L := [0, 1]) rfl ?_
  refine x_pure rfl rfl rfl (L_move rfl) ?_
  refine x_pure rfl rfl rfl (L_bin rfl rfl rfl rfl) ?_
  refine EOps_nil ?_
  refine E_cond rfl (fun hc28 => ?_) (fun hc28 => ?_)
  · refine E_seq ?_
    refine E_region' (L := [0]) rfl ?_
    refine x_pure rfl rfl rfl (L_assign rfl) ?_
    refine EOps_nil ?_
    refine E_ret ?_
    refine ⟨_, [], rfl, rfl, ?_, rfl⟩
    simp [AV.ren, ren_sc, ren_ro, AC.ren, AC.ren.rens, ix, rv1, E.get, E.ev, E.cv, E.fill', E.fill, E.slotsOf, *]
  · have h0 : ¬ szR (1048576) (c.vals.length + c.rows.length + c.piv.length) < 0 := by simpa using hc28
    have hl0 := szR_le h0
    have hr0 := szR_rng (l := 1048576) (n := c.vals.length + c.rows.length + c.piv.length) (by omega)
    have ha0 : c.vals.length ≤ 1048576 ∧ c.rows.length ≤ 1048576 ∧ c.piv.length ≤ 1048576 := by omega
    have hw := c_spec_SelectWith c s x ha0
    have hg := c_impl_SelectWith c s x ha0
    have hle02 := sw_le (c := c) (s := s) (r := x) ha0
    have hle0 := hle02.1
    have hle2 := hle02.2
    generalize swC c s x = q at hw hg hle0
    generalize swS c s x = t at hw hg
    generalize swL c s x = l at hw hg hle2
    generalize swN c s x = n at hw hg
    refine E_skip ?_
    refine E_seq ?_
    refine e_tidy_A112_0 [0, 1, 2, 3, 4, 5, 6, 7, 28] ?_
    refine E_drawT mixed ?_
    refine t_light 0 rfl rfl rfl (L_load rfl (by first | exact d_bp ty_43 | exact ld_rp ty_43 rfl | exact d_ep ty_43)) ?_
    refine t_light 2 rfl rfl rfl (L_load rfl (by first | exact d_bp ty_24 | exact ld_rp ty_24 rfl | exact d_ep ty_24)) ?_
    refine t_light 4 rfl rfl rfl (L_load rfl (by first | exact d_bp ty_45 | exact ld_rp ty_45 rfl | exact d_ep ty_45)) ?_
    refine t_main 4 [(⟨none, 12, 8, 0⟩, _), (⟨none, 13, 9, 0⟩, _)] [(1, false), (3, false), (5, false), (6, false), (7, true), (8, true), (9, true), (10, true), (11, true)] [31, 33, 35, 36, 29, 37, 38, 39, 40] [(8, .any), (9, .any), (31, .any), (33, .any), (35, .any), (36, .any), (29, .any), (37, .any), (38, .any), (39, .any), (40, .any)] [1, 3, 5, 6, 7, 8, 9, 10, 11, 12, 13] ⟨.one rfl rfl rfl (by decide) (F_alloc rfl za_49), .one rfl rfl rfl (by decide) (F_alloc rfl za_30), trivial⟩ ?_
    refine m_call rfl rfl rfl rfl rfl ca_27 (c_laws_toCracker c ha0) ?_
    rintro r S ⟨rfl, rfl⟩
    refine m_call rfl rfl rfl rfl rfl ca_15 (c_laws_toSettings s) ?_
    rintro r S ⟨rfl, rfl⟩
    refine m_call rfl rfl rfl rfl rfl ca_28 (c_laws_toRange x.1 x.2) ?_
    rintro r S ⟨rfl, rfl⟩
    refine m_call rfl rfl rfl rfl rfl ca_26 (hw) ?_
    rintro r S ⟨rfl, rfl⟩
    refine m_pure rfl rfl rfl (L_move rfl) ?_
    refine m_pure rfl rfl rfl (L_extract rfl rfl) ?_
    refine m_pure rfl rfl rfl (L_extract rfl rfl) ?_
    refine m_pure rfl rfl rfl (L_extract rfl rfl) ?_
    refine m_pure rfl rfl rfl (L_extract rfl rfl) ?_
    refine m_done ?_
    refine fk_cons ?_
    rintro r S ⟨rfl, rfl⟩
    refine fk_cons ?_
    rintro r S ⟨rfl, rfl⟩
    refine fk_nil ?_
    refine t_turn 14 rfl rfl (EOp_store rfl rfl rfl (by first | exact s_bp ty_49 | exact s_ep ty_49) ?_)
    refine t_turn 15 rfl rfl (EOp_store rfl rfl rfl (by first | exact s_bp ty_30 | exact s_ep ty_30) ?_)
    refine t_old 16 rfl rfl rfl (L_assign rfl) ?_
    refine t_old 17 rfl rfl rfl (L_assign rfl) ?_
    refine T_done (by kernel_rfl) ?_
    refine E_seq ?_
    refine e_tidy_A112_0 [0, 1, 2, 3, 4, 5, 6, 7, 8, 9, 10, 11, 28] ?_
    refine E_region' (L := [0, 1, 2, 3]) rfl ?_
    refine x_light rfl rfl rfl (L_load rfl (by first | exact d_bp ty_43 | exact ld_rp ty_43 rfl | exact d_ep ty_43)) ?_
    refine x_call rfl rfl rfl rfl rfl ca_27 (c_laws_toCracker c ha0) ?_
    rintro r S ⟨rfl, rfl⟩
    refine x_alloc rfl rfl rfl rfl za_49 ?_
    refine EOps_go rfl rfl (EOp_store rfl rfl rfl (by first | exact s_bp ty_49 | exact s_ep ty_49) ?_)
    refine EOps_nil ?_
    refine E_seq ?_
    refine e_tidy_A112_0 [0, 1, 2, 3, 4, 5, 6, 7, 8, 9, 10, 11, 12, 28] ?_
    refine E_drawT mixed ?_
    refine t_light 0 rfl rfl rfl (L_load rfl (by first | exact d_bp ty_49 | exact ld_rp ty_49 rfl | exact d_ep ty_49)) ?_
    refine t_light 1 rfl rfl rfl (L_load rfl (by first | exact d_bp ty_24 | exact ld_rp ty_24 rfl | exact d_ep ty_24)) ?_
    refine t_light 3 rfl rfl rfl (L_load rfl (by first | exact d_bp ty_45 | exact ld_rp ty_45 rfl | exact d_ep ty_45)) ?_
    refine t_main 4 [(⟨none, 11, 13, 0⟩, _), (⟨none, 12, 14, 0⟩, _)] [(2, false), (4, false), (5, false), (6, true), (7, true), (8, true), (9, true), (10, true)] [46, 48, 49, 43, 50, 51, 52, 53] [(13, .any), (14, .any), (46, .any), (48, .any), (49, .any), (43, .any), (50, .any), (51, .any), (52, .any), (53, .any)] [2, 4, 5, 6, 7, 8, 9, 10, 11, 12] ⟨.one rfl rfl rfl (by decide) (F_alloc rfl za_49), .one rfl rfl rfl (by decide) (F_alloc rfl za_30), trivial⟩ ?_
    refine m_call rfl rfl rfl rfl rfl ca_15 (c_laws_toSettings s) ?_
    rintro r S ⟨rfl, rfl⟩
    refine m_call rfl rfl rfl rfl rfl ca_28 (c_laws_toRange x.1 x.2) ?_
    rintro r S ⟨rfl, rfl⟩
    refine m_call rfl rfl rfl rfl rfl ca_29 (hg) ?_
    rintro r S ⟨rfl, rfl⟩
    refine m_pure rfl rfl rfl (L_move rfl) ?_
    refine m_pure rfl rfl rfl (L_extract rfl rfl) ?_
    refine m_pure rfl rfl rfl (L_extract rfl rfl) ?_
    refine m_pure rfl rfl rfl (L_extract rfl rfl) ?_
    refine m_pure rfl rfl rfl (L_extract rfl rfl) ?_
    refine m_done ?_
    refine fk_cons ?_
    rintro r S ⟨rfl, rfl⟩
    refine fk_cons ?_
    rintro r S ⟨rfl, rfl⟩
    refine fk_nil ?_
    refine t_turn 13 rfl rfl (EOp_store rfl rfl rfl (by first | exact s_bp ty_49 | exact s_ep ty_49) ?_)
    refine t_turn 14 rfl rfl (EOp_store rfl rfl rfl (by first | exact s_bp ty_30 | exact s_ep ty_30) ?_)
    refine t_old 15 rfl rfl rfl (L_assign rfl) ?_
    refine t_old 16 rfl rfl rfl (L_assign rfl) ?_
    refine T_done (by kernel_rfl) ?_
    refine E_seq ?_
    refine E_seq ?_
    refine e_tidy_A112_0 [0, 1, 2, 3, 4, 5, 6, 7, 8, 9, 10, 11, 12, 13, 14, 15, 16, 28] ?_
    refine E_region' (L := [0, 1, 2, 3, 4, 5, 6, 7, 8, 9, 10, 11, 12, 13, 14, 15, 16, 17, 18, 19, 20]) rfl ?_
    refine x_light rfl rfl rfl (L_load rfl (by first | exact d_bp ty_49 | exact ld_rp ty_49 rfl | exact d_ep ty_49)) ?_
    refine x_light rfl rfl rfl (L_load rfl (by first | exact d_bp ty_49 | exact ld_rp ty_49 rfl | exact d_ep ty_49)) ?_
    refine x_call rfl rfl rfl rfl rfl ca_30 (c_laws_eqCracker q q) ?_
    rintro r S ⟨rfl, rfl⟩
    refine x_pure rfl rfl rfl (L_not rfl rfl) ?_
    refine x_pure rfl rfl rfl (L_move rfl) ?_
    refine EOps_split 58 (b := _) rfl (fun hg58 => ?_) (fun hg58 => ?_)
    · first | (simp at hg58; done) | (simp at hg58; omega)
    · refine x_light rfl rfl rfl (L_load rfl (by first | exact d_bp ty_30 | exact ld_rp ty_30 rfl | exact d_ep ty_30)) ?_
      refine x_light rfl rfl rfl (L_load rfl (by first | exact d_bp ty_30 | exact ld_rp ty_30 rfl | exact d_ep ty_30)) ?_
      refine x_call rfl rfl rfl rfl rfl ca_31 (c_laws_eqSettings t t) ?_
      rintro r S ⟨rfl, rfl⟩
      refine x_pure rfl rfl rfl (L_not rfl rfl) ?_
      refine x_pure rfl rfl rfl (L_pick rfl rfl) ?_
      refine x_pure rfl rfl rfl (L_move rfl) ?_
      refine EOps_split 64 (b := _) rfl (fun hg64 => ?_) (fun hg64 => ?_)
      · first | (simp at hg64; done) | (simp at hg64; omega)
      · refine x_pure rfl rfl rfl (L_move rfl) ?_
        refine x_pure rfl rfl rfl (L_move rfl) ?_
        refine x_call rfl rfl rfl rfl rfl ca_19 (c_laws_eqIntS l l) ?_
        rintro r S ⟨rfl, rfl⟩
        refine x_pure rfl rfl rfl (L_not rfl rfl) ?_
        refine x_pure rfl rfl rfl (L_pick rfl rfl) ?_
        refine x_pure rfl rfl rfl (L_move rfl) ?_
        refine EOps_split 70 (b := _) rfl (fun hg70 => ?_) (fun hg70 => ?_)
        · first | (simp at hg70; done) | (simp at hg70; omega)
        · refine x_pure rfl rfl rfl (L_move rfl) ?_
          refine x_pure rfl rfl rfl (L_move rfl) ?_
          refine x_pure rfl rfl rfl (L_bin rfl rfl rfl rfl) ?_
          refine x_pure rfl rfl rfl (L_pick rfl rfl) ?_
          refine EOps_nil ?_
          refine E_cond rfl (fun hc74 => ?_) (fun hc74 => ?_)
          · first | (simp at hc74; done) | (simp at hc74; omega)
          · refine E_skip ?_
            refine E_seq ?_
            refine E_seq ?_
            refine e_tidy_A112_0 [0, 1, 2, 3, 4, 5, 6, 7, 8, 9, 10, 11, 12, 13, 14, 15, 16, 28, 74] ?_
            refine E_drawT mixed ?_
            refine t_light 0 rfl rfl rfl (L_load rfl (by first | exact d_bp ty_49 | exact ld_rp ty_49 rfl | exact d_ep ty_49)) ?_
            refine t_light 1 rfl rfl rfl (L_load rfl (by first | exact d_bp ty_43 | exact ld_rp ty_43 rfl | exact d_ep ty_43)) ?_
            refine t_call 2 rfl rfl rfl rfl rfl ca_27 (c_laws_toCracker c ha0) ?_
            rintro r S ⟨rfl, rfl⟩
            refine t_call 3 rfl rfl rfl rfl rfl ca_30 (c_laws_eqCracker c c) ?_
            rintro r S ⟨rfl, rfl⟩
            refine t_old 4 rfl rfl rfl (L_not rfl rfl) ?_
            refine T_done (by kernel_rfl) ?_
            refine E_cond rfl (fun hc79 => ?_) (fun hc79 => ?_)
            · first | (simp at hc79; done) | (simp at hc79; omega)
            · refine E_skip ?_
              refine E_seq ?_
              refine E_region' (L := [0]) rfl ?_
              refine x_pure rfl rfl rfl (L_assign rfl) ?_
              refine EOps_nil ?_
              refine E_seq ?_
              refine e_tidy_A112_0 [0, 1, 2, 3, 4, 5, 6, 7, 8, 9, 10, 11, 12, 13, 14, 15, 16, 17, 28, 74, 79] ?_
              refine E_region' (L := [0, 1, 2, 3]) rfl ?_
              refine x_light rfl rfl rfl (L_load rfl (by first | exact d_bp ty_49 | exact ld_rp ty_49 rfl | exact d_ep ty_49)) ?_
              refine x_pure rfl rfl rfl (L_move rfl) ?_
              refine x_frame [12, 13, 14] rfl rfl rfl rfl rfl ca_32 rfl (c_laws_markCracker _ _ _ (1) c _ _ _ rfl rfl rfl ha0 (by omega)) ?_
              rintro r S ⟨r0, S0, ⟨rfl, rfl⟩, rfl, rfl⟩
              refine x_pure rfl rfl rfl (L_assign rfl) ?_
              refine EOps_nil ?_
              refine E_seq ?_
              refine E_seq ?_
              refine e_tidy_A112_0 [0, 1, 2, 3, 4, 5, 6, 7, 8, 9, 10, 11, 12, 13, 14, 15, 16, 17, 28, 74, 79] ?_
              refine E_region' (L := [0, 1, 2, 3, 4, 5, 6, 7, 8, 9, 10, 11, 12, 13, 14, 15, 16, 17, 18, 19, 20, 21, 22, 23, 24]) rfl ?_
              refine x_pure rfl rfl rfl (L_move rfl) ?_
              refine x_pure rfl rfl rfl (L_bin rfl rfl rfl rfl) ?_
              refine x_pure rfl rfl rfl (L_move rfl) ?_
              refine EOps_split 85 (b := _) rfl (fun hg85 => ?_) (fun hg85 => ?_)
              · first | (simp at hg85; done) | (simp at hg85; omega)
              · refine x_light rfl rfl rfl (L_load rfl (by first | exact d_bp ty_49 | exact ld_rp ty_49 rfl | exact d_ep ty_49)) ?_
                refine x_light rfl rfl rfl (L_load rfl (by first | exact d_bp ty_49 | exact ld_rp ty_49 rfl | exact d_ep ty_49)) ?_
                refine x_call rfl rfl rfl rfl rfl ca_30 (c_laws_eqCracker q q) ?_
                rintro r S ⟨rfl, rfl⟩
                refine x_pure rfl rfl rfl (L_not rfl rfl) ?_
                refine x_pure rfl rfl rfl (L_pick rfl rfl) ?_
                refine x_pure rfl rfl rfl (L_move rfl) ?_
                refine EOps_split 91 (b := _) rfl (fun hg91 => ?_) (fun hg91 => ?_)
                · first | (simp at hg91; done) | (simp at hg91; omega)
                · refine x_light rfl rfl rfl (L_load rfl (by first | exact d_bp ty_30 | exact ld_rp ty_30 rfl | exact d_ep ty_30)) ?_
                  refine x_light rfl rfl rfl (L_load rfl (by first | exact d_bp ty_30 | exact ld_rp ty_30 rfl | exact d_ep ty_30)) ?_
                  refine x_call rfl rfl rfl rfl rfl ca_31 (c_laws_eqSettings t t) ?_
                  rintro r S ⟨rfl, rfl⟩
                  refine x_pure rfl rfl rfl (L_not rfl rfl) ?_
                  refine x_pure rfl rfl rfl (L_pick rfl rfl) ?_
                  refine x_pure rfl rfl rfl (L_move rfl) ?_
                  refine EOps_split 97 (b := _) rfl (fun hg97 => ?_) (fun hg97 => ?_)
                  · first | (simp at hg97; done) | (simp at hg97; omega)
                  · refine x_pure rfl rfl rfl (L_move rfl) ?_
                    refine x_pure rfl rfl rfl (L_move rfl) ?_
                    refine x_call rfl rfl rfl rfl rfl ca_19 (c_laws_eqIntS l l) ?_
                    rintro r S ⟨rfl, rfl⟩
                    refine x_pure rfl rfl rfl (L_not rfl rfl) ?_
                    refine x_pure rfl rfl rfl (L_pick rfl rfl) ?_
                    refine x_pure rfl rfl rfl (L_move rfl) ?_
                    refine EOps_split 103 (b := _) rfl (fun hg103 => ?_) (fun hg103 => ?_)
                    · first | (simp at hg103; done) | (simp at hg103; omega)
                    · refine x_pure rfl rfl rfl (L_move rfl) ?_
                      refine x_pure rfl rfl rfl (L_move rfl) ?_
                      refine x_pure rfl rfl rfl (L_bin rfl rfl rfl rfl) ?_
                      refine x_pure rfl rfl rfl (L_pick rfl rfl) ?_
                      refine EOps_nil ?_
                      refine E_cond rfl (fun hc107 => ?_) (fun hc107 => ?_)
                      · first | (simp at hc107; done) | (simp at hc107; omega)
                      · refine E_skip ?_
                        refine E_seq ?_
                        refine E_region' (L := [0]) rfl ?_
                        refine x_pure rfl rfl rfl (L_assign rfl) ?_
                        refine EOps_nil ?_
                        refine E_seq ?_
                        refine e_tidy_A112_0 [0, 1, 2, 3, 4, 5, 6, 7, 8, 9, 10, 11, 12, 13, 14, 15, 16, 17, 18, 28, 74, 79, 107] ?_
                        refine E_region' (L := [0, 1, 2, 3]) rfl ?_
                        refine x_light rfl rfl rfl (L_load rfl (by first | exact d_bp ty_49 | exact ld_rp ty_49 rfl | exact d_ep ty_49)) ?_
                        refine x_pure rfl rfl rfl (L_move rfl) ?_
                        refine x_frame [16, 17, 18] rfl rfl rfl rfl rfl ca_32 rfl (c_laws_markCracker _ _ _ (1) q _ _ _ rfl rfl rfl hle0 (by omega)) ?_
                        rintro r S ⟨r0, S0, ⟨rfl, rfl⟩, rfl, rfl⟩
                        refine x_pure rfl rfl rfl (L_assign rfl) ?_
                        refine EOps_nil ?_
                        refine E_seq ?_
                        refine e_tidy_A112_0 [0, 1, 2, 3, 4, 5, 6, 7, 8, 9, 10, 11, 12, 13, 14, 15, 16, 17, 18, 28, 74, 79, 107] ?_
                        refine E_region' (L := [0, 1, 2, 3]) rfl ?_
                        refine x_pure rfl rfl rfl (L_move rfl) ?_
                        refine x_pure rfl rfl rfl (L_move rfl) ?_
                        refine x_frame [19] rfl rfl rfl rfl rfl ca_21 rfl (c_laws_markIntS _ (l.length) (1 + q.vals.length + q.rows.length + 2 * q.piv.length) l rfl hle2 (by omega)) ?_
                        rintro r S ⟨r0, S0, ⟨rfl, rfl⟩, rfl, rfl⟩
                        refine x_pure rfl rfl rfl (L_assign rfl) ?_
                        refine EOps_nil ?_
                        refine E_seq ?_
                        refine E_region' (L := [0]) rfl ?_
                        refine x_pure rfl rfl rfl (L_assign rfl) ?_
                        refine EOps_nil ?_
                        refine E_seq ?_
                        refine e_tidy_A112_0 [0, 1, 2, 3, 4, 5, 6, 7, 8, 9, 10, 11, 12, 13, 14, 15, 16, 17, 18, 19, 28, 74, 79, 107] ?_
                        refine E_region' (L := [0, 1, 2, 3]) rfl ?_
                        refine x_light rfl rfl rfl (L_load rfl (by first | exact d_bp ty_49 | exact ld_rp ty_49 rfl | exact d_ep ty_49)) ?_
                        refine x_pure rfl rfl rfl (L_move rfl) ?_
                        refine x_call rfl rfl rfl rfl rfl ca_33 (c_laws_heldCracker (1) (q.vals.length) (q.rows.length) (q.piv.length) hle0 (by omega)) ?_ (ha := by exact cons_eq (agg_eq (cons_eq (lendC_whole rfl (by simp [ints_len, seqF_len])) (cons_eq (lendC_whole rfl (by simp [ints_len, seqF_len])) (cons_eq (lendC_whole rfl (by simp [pairs_len, seqP_len])) rfl)))) (cons_eq rfl rfl))
                        rintro r S ⟨rfl, rfl⟩
                        refine x_pure rfl rfl rfl (L_assign rfl) ?_
                        refine EOps_nil ?_
                        refine E_seq ?_
                        refine E_seq ?_
                        refine E_region' (L := [0, 1]) rfl ?_
                        refine x_pure rfl rfl rfl (L_move rfl) ?_
                        refine x_pure rfl rfl rfl (L_bin rfl rfl rfl rfl) ?_
                        refine EOps_nil ?_
                        refine E_cond rfl (fun hc118 => ?_) (fun hc118 => ?_)
                        · first | (simp at hc118; done) | (simp at hc118; omega)
                        · refine E_skip ?_
                          refine E_seq ?_
                          refine e_tidy_A112_0 [0, 1, 2, 3, 4, 5, 6, 7, 8, 9, 10, 11, 12, 13, 14, 15, 16, 17, 18, 19, 28, 74, 79, 107, 118] ?_
                          refine E_region' (L := [0, 1, 2, 3]) rfl ?_
                          refine x_pure rfl rfl rfl (L_move rfl) ?_
                          refine x_pure rfl rfl rfl (L_move rfl) ?_
                          refine x_call rfl rfl rfl rfl rfl ca_34 (c_laws_heldIntS (l.length) (1 + q.vals.length + q.rows.length + 2 * q.piv.length) hle2 (by omega)) ?_ (ha := by exact cons_eq (lend_whole rfl (by simp [ints_len, seqF_len])) (cons_eq rfl rfl))
                          rintro r S ⟨rfl, rfl⟩
                          refine x_pure rfl rfl rfl (L_assign rfl) ?_
                          refine EOps_nil ?_
                          refine E_seq ?_
                          refine E_seq ?_
                          refine E_region' (L := [0, 1]) rfl ?_
                          refine x_pure rfl rfl rfl (L_move rfl) ?_
                          refine x_pure rfl rfl rfl (L_bin rfl rfl rfl rfl) ?_
                          refine EOps_nil ?_
                          refine E_cond rfl (fun hc123 => ?_) (fun hc123 => ?_)
                          · first | (simp at hc123; done) | (simp at hc123; omega)
                          · refine E_skip ?_
                            refine E_seq ?_
                            refine E_seq ?_
                            refine E_region' (L := [0, 1, 2]) rfl ?_
                            refine x_pure rfl rfl rfl (L_move rfl) ?_
                            refine x_pure rfl rfl rfl (L_move rfl) ?_
                            refine x_pure rfl rfl rfl (L_bin rfl rfl rfl rfl) ?_
                            refine EOps_nil ?_
                            refine E_cond rfl (fun hc126 => ?_) (fun hc126 => ?_)
                            · first | (simp at hc126; done) | (simp at hc126; omega)
                            · refine E_skip ?_
                              refine E_seq ?_
                              refine e_tidy_A112_0 [0, 1, 2, 3, 4, 5, 6, 7, 8, 9, 10, 11, 12, 13, 14, 15, 16, 17, 18, 19, 28, 74, 79, 107, 118, 123, 126] ?_
                              refine E_drawT mixed ?_
                              refine t_light 0 rfl rfl rfl (L_load rfl (by first | exact d_bp ty_43 | exact ld_rp ty_43 rfl | exact d_ep ty_43)) ?_
                              refine t_light 2 rfl rfl rfl (L_load rfl (by first | exact d_bp ty_24 | exact ld_rp ty_24 rfl | exact d_ep ty_24)) ?_
                              refine t_light 4 rfl rfl rfl (L_load rfl (by first | exact d_bp ty_45 | exact ld_rp ty_45 rfl | exact d_ep ty_45)) ?_
                              refine t_main 4 [(⟨none, 12, 20, 0⟩, _), (⟨none, 13, 21, 0⟩, _)] [(1, false), (3, false), (5, false), (6, false), (7, true), (8, true), (9, true), (10, true), (11, true)] [129, 131, 133, 134, 127, 135, 136, 137, 138] [(20, .any), (21, .any), (129, .any), (131, .any), (133, .any), (134, .any), (127, .any), (135, .any), (136, .any), (137, .any), (138, .any)] [1, 3, 5, 6, 7, 8, 9, 10, 11, 12, 13] ⟨.one rfl rfl rfl (by decide) (F_alloc rfl za_49), .one rfl rfl rfl (by decide) (F_alloc rfl za_30), trivial⟩ ?_
                              refine m_call rfl rfl rfl rfl rfl ca_27 (c_laws_toCracker c ha0) ?_
                              rintro r S ⟨rfl, rfl⟩
                              refine m_call rfl rfl rfl rfl rfl ca_15 (c_laws_toSettings s) ?_
                              rintro r S ⟨rfl, rfl⟩
                              refine m_call rfl rfl rfl rfl rfl ca_28 (c_laws_toRange x.1 x.2) ?_
                              rintro r S ⟨rfl, rfl⟩
                              refine m_call rfl rfl rfl rfl rfl ca_29 (hg) ?_
                              rintro r S ⟨rfl, rfl⟩
                              refine m_pure rfl rfl rfl (L_move rfl) ?_
                              refine m_pure rfl rfl rfl (L_extract rfl rfl) ?_
                              refine m_pure rfl rfl rfl (L_extract rfl rfl) ?_
                              refine m_pure rfl rfl rfl (L_extract rfl rfl) ?_
                              refine m_pure rfl rfl rfl (L_extract rfl rfl) ?_
                              refine m_done ?_
                              refine fk_cons ?_
                              rintro r S ⟨rfl, rfl⟩
                              refine fk_cons ?_
                              rintro r S ⟨rfl, rfl⟩
                              refine fk_nil ?_
                              refine t_turn 14 rfl rfl (EOp_store rfl rfl rfl (by first | exact s_bp ty_49 | exact s_ep ty_49) ?_)
                              refine t_turn 15 rfl rfl (EOp_store rfl rfl rfl (by first | exact s_bp ty_30 | exact s_ep ty_30) ?_)
                              refine t_old 16 rfl rfl rfl (L_assign rfl) ?_
                              refine t_old 17 rfl rfl rfl (L_assign rfl) ?_
                              refine T_done (by kernel_rfl) ?_
                              refine E_seq ?_
                              refine E_seq ?_
                              refine e_tidy_A112_0 [0, 1, 2, 3, 4, 5, 6, 7, 8, 9, 10, 11, 12, 13, 14, 15, 16, 17, 18, 19, 20, 21, 22, 23, 28, 74, 79, 107, 118, 123, 126] ?_
                              refine E_region' (L := [0, 1, 2, 3, 4, 5, 6, 7, 8, 9, 10, 11, 12, 13, 14, 15, 16, 17, 18, 19, 20]) rfl ?_
                              refine x_light rfl rfl rfl (L_load rfl (by first | exact d_bp ty_49 | exact ld_rp ty_49 rfl | exact d_ep ty_49)) ?_
                              refine x_light rfl rfl rfl (L_load rfl (by first | exact d_bp ty_49 | exact ld_rp ty_49 rfl | exact d_ep ty_49)) ?_
                              refine x_call rfl rfl rfl rfl rfl ca_30 (c_laws_eqCracker q q) ?_
                              rintro r S ⟨rfl, rfl⟩
                              refine x_pure rfl rfl rfl (L_not rfl rfl) ?_
                              refine x_pure rfl rfl rfl (L_move rfl) ?_
                              refine EOps_split 143 (b := _) rfl (fun hg143 => ?_) (fun hg143 => ?_)
                              · first | (simp at hg143; done) | (simp at hg143; omega)
                              · refine x_light rfl rfl rfl (L_load rfl (by first | exact d_bp ty_30 | exact ld_rp ty_30 rfl | exact d_ep ty_30)) ?_
                                refine x_light rfl rfl rfl (L_load rfl (by first | exact d_bp ty_30 | exact ld_rp ty_30 rfl | exact d_ep ty_30)) ?_
                                refine x_call rfl rfl rfl rfl rfl ca_31 (c_laws_eqSettings t t) ?_
                                rintro r S ⟨rfl, rfl⟩
                                refine x_pure rfl rfl rfl (L_not rfl rfl) ?_
                                refine x_pure rfl rfl rfl (L_pick rfl rfl) ?_
                                refine x_pure rfl rfl rfl (L_move rfl) ?_
                                refine EOps_split 149 (b := _) rfl (fun hg149 => ?_) (fun hg149 => ?_)
                                · first | (simp at hg149; done) | (simp at hg149; omega)
                                · refine x_pure rfl rfl rfl (L_move rfl) ?_
                                  refine x_pure rfl rfl rfl (L_move rfl) ?_
                                  refine x_call rfl rfl rfl rfl rfl ca_19 (c_laws_eqIntS l l) ?_
                                  rintro r S ⟨rfl, rfl⟩
                                  refine x_pure rfl rfl rfl (L_not rfl rfl) ?_
                                  refine x_pure rfl rfl rfl (L_pick rfl rfl) ?_
                                  refine x_pure rfl rfl rfl (L_move rfl) ?_
                                  refine EOps_split 155 (b := _) rfl (fun hg155 => ?_) (fun hg155 => ?_)
                                  · first | (simp at hg155; done) | (simp at hg155; omega)
                                  · refine x_pure rfl rfl rfl (L_move rfl) ?_
                                    refine x_pure rfl rfl rfl (L_move rfl) ?_
                                    refine x_pure rfl rfl rfl (L_bin rfl rfl rfl rfl) ?_
                                    refine x_pure rfl rfl rfl (L_pick rfl rfl) ?_
                                    refine EOps_nil ?_
                                    refine E_cond rfl (fun hc159 => ?_) (fun hc159 => ?_)
                                    · first | (simp at hc159; done) | (simp at hc159; omega)
                                    · refine E_skip ?_
                                      refine E_seq ?_
                                      refine E_region' (L := [0]) rfl ?_
                                      refine x_pure rfl rfl rfl (L_assign rfl) ?_
                                      refine EOps_nil ?_
                                      refine E_seq ?_
                                      refine e_tidy_A112_0 [0, 1, 2, 3, 4, 5, 6, 7, 8, 9, 10, 11, 12, 13, 14, 15, 16, 17, 18, 19, 20, 21, 22, 23, 28, 74, 79, 107, 118, 123, 126, 159] ?_
                                      refine E_region' (L := [0, 1, 2, 3]) rfl ?_
                                      refine x_light rfl rfl rfl (L_load rfl (by first | exact d_bp ty_49 | exact ld_rp ty_49 rfl | exact d_ep ty_49)) ?_
                                      refine x_pure rfl rfl rfl (L_move rfl) ?_
                                      refine x_call rfl rfl rfl rfl rfl ca_33 (c_laws_heldCracker (1) (q.vals.length) (q.rows.length) (q.piv.length) hle0 (by omega)) ?_ (ha := by exact cons_eq (agg_eq (cons_eq (lendC_whole rfl (by simp [ints_len, seqF_len])) (cons_eq (lendC_whole rfl (by simp [ints_len, seqF_len])) (cons_eq (lendC_whole rfl (by simp [pairs_len, seqP_len])) rfl)))) (cons_eq rfl rfl))
                                      rintro r S ⟨rfl, rfl⟩
                                      refine x_pure rfl rfl rfl (L_assign rfl) ?_
                                      refine EOps_nil ?_
                                      refine E_seq ?_
                                      refine E_seq ?_
                                      refine E_region' (L := [0, 1]) rfl ?_
                                      refine x_pure rfl rfl rfl (L_move rfl) ?_
                                      refine x_pure rfl rfl rfl (L_bin rfl rfl rfl rfl) ?_
                                      refine EOps_nil ?_
                                      refine E_cond rfl (fun hc164 => ?_) (fun hc164 => ?_)
                                      · first | (simp at hc164; done) | (simp at hc164; omega)
                                      · refine E_skip ?_
                                        refine E_seq ?_
                                        refine e_tidy_A112_0 [0, 1, 2, 3, 4, 5, 6, 7, 8, 9, 10, 11, 12, 13, 14, 15, 16, 17, 18, 19, 20, 21, 22, 23, 28, 74, 79, 107, 118, 123, 126, 159, 164] ?_
                                        refine E_region' (L := [0, 1, 2, 3]) rfl ?_
                                        refine x_pure rfl rfl rfl (L_move rfl) ?_
                                        refine x_pure rfl rfl rfl (L_move rfl) ?_
                                        refine x_call rfl rfl rfl rfl rfl ca_34 (c_laws_heldIntS (l.length) (1 + q.vals.length + q.rows.length + 2 * q.piv.length) hle2 (by omega)) ?_ (ha := by exact cons_eq (lend_whole rfl (by simp [ints_len, seqF_len])) (cons_eq rfl rfl))
                                        rintro r S ⟨rfl, rfl⟩
                                        refine x_pure rfl rfl rfl (L_assign rfl) ?_
                                        refine EOps_nil ?_
                                        refine E_seq ?_
                                        refine E_seq ?_
                                        refine E_region' (L := [0, 1]) rfl ?_
                                        refine x_pure rfl rfl rfl (L_move rfl) ?_
                                        refine x_pure rfl rfl rfl (L_bin rfl rfl rfl rfl) ?_
                                        refine EOps_nil ?_
                                        refine E_cond rfl (fun hc169 => ?_) (fun hc169 => ?_)
                                        · first | (simp at hc169; done) | (simp at hc169; omega)
                                        · refine E_skip ?_
                                          refine E_seq ?_
                                          refine E_seq ?_
                                          refine E_region' (L := [0, 1, 2]) rfl ?_
                                          refine x_pure rfl rfl rfl (L_move rfl) ?_
                                          refine x_pure rfl rfl rfl (L_move rfl) ?_
                                          refine x_pure rfl rfl rfl (L_bin rfl rfl rfl rfl) ?_
                                          refine EOps_nil ?_
                                          refine E_cond rfl (fun hc172 => ?_) (fun hc172 => ?_)
                                          · first | (simp at hc172; done) | (simp at hc172; omega)
                                          · refine E_skip ?_
                                            refine E_seq ?_
                                            refine E_region' (L := [0]) rfl ?_
                                            refine x_pure rfl rfl rfl (L_assign rfl) ?_
                                            refine EOps_nil ?_
                                            refine E_ret ?_
                                            refine ⟨_, [], rfl, rfl, ?_, rfl⟩
                                            simp [AV.ren, ren_sc, ren_ro, AC.ren, AC.ren.rens, ix, rv1, E.get, E.ev, E.cv, E.fill', E.fill, E.slotsOf, *]

end Go.Proofs.YtlodlnbhjghjoaaGreat.E
