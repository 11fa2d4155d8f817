/- Walks through functions, by program out of the session's annotations. -/
import Derived.Test.YtlodlnbhjghjoaaGreatA107
import Derived.Test.YtlodlnbhjghjoaaGreatA31
import Derived.Test.YtlodlnbhjghjoaaGreatA09
namespace Go.Proofs.YtlodlnbhjghjoaaGreat.E
open Go Go.RowKit Go.Proofs
set_option linter.unusedVariables false
set_option linter.unusedSimpArgs false

theorem e_tidy_A108_0 {P : Program} {N : Nat} {s : Slots} {R : List Res} {Q : Exit → Slots → List Res → Prop} {c : Code} (keep : List Nat) {base : Slots} {R' : List Res} (h : ECode P N c base R' Q) (hb : keepOf s keep = base := by simp only [E.keepOf, E.get, E.ev, E.cv, E.fill', E.fill, E.slotsOf, Res.sh, AC.sh, AC.sh.shs, AV.sh, E.splice, List.map_cons, List.map_nil, List.cons_append, List.nil_append, List.append_nil, List.length_cons, List.length_nil, List.take_zero, List.drop_zero, List.take_succ_cons, List.drop_succ_cons, List.drop_nil, List.take_nil, List.set_cons_zero, List.set_cons_succ, Nat.zero_add, Nat.add_zero, Nat.reduceAdd, Nat.reduceSub, reduceIte, Nat.reduceEqDiff, E.back, E.backR, E.ix, Res.un, AC.un, AC.un.uns, AV.un, E.un, Option.map_some, Option.map_none, Option.getD_some, List.getElem?_cons_zero, List.getElem?_cons_succ, List.getElem?_nil, crkO, crkR, pndO, pndR]; rfl) (hR : R = R' := by (try simp only [E.keepOf, E.get, E.ev, E.cv, E.fill', E.fill, E.slotsOf, Res.sh, AC.sh, AC.sh.shs, AV.sh, E.splice, List.map_cons, List.map_nil, List.cons_append, List.nil_append, List.append_nil, List.length_cons, List.length_nil, List.take_zero, List.drop_zero, List.take_succ_cons, List.drop_succ_cons, List.drop_nil, List.take_nil, List.set_cons_zero, List.set_cons_succ, Nat.zero_add, Nat.add_zero, Nat.reduceAdd, Nat.reduceSub, reduceIte, Nat.reduceEqDiff, E.back, E.backR, E.ix, Res.un, AC.un, AC.un.uns, AV.un, E.un, Option.map_some, Option.map_none, Option.getD_some, List.getElem?_cons_zero, List.getElem?_cons_succ, List.getElem?_nil, crkO, crkR, pndO, pndR]); rfl) : ECode P N c s R Q := E_tidy keep hb hR h

set_option maxRecDepth 20000 in
set_option maxHeartbeats 4000000 in
theorem c_laws_FnExactSelectFresh (c : Crk) (p : Pnd) (x : Int × Int) : EFn Tryz.prog 9 [.agg (crkC c), .agg (pndC p), .agg [.sc (.int .i64 x.1), .sc (.int .i64 x.2)]] [] (fun r S => r = .c (.sc (.bool true)) ∧ S = []) := by
 refine E_fn Tryz.func9 rfl (Nat.le_of_ble_eq_true rfl) ?_
 refine E_seq ?_
 refine E_region' (L := [0, 1, 2, 3]) rfl ?_
 refine x_box rfl rfl rfl rfl rfl ?_
 refine x_box rfl rfl rfl rfl rfl ?_
 refine x_box rfl rfl rfl rfl rfl ?_
 refine xas ?_
 refine EOps_nil ?_
 refine E_seq ?_
 refine E_region' (L := [0]) rfl ?_
 refine xas ?_
 refine EOps_nil ?_
 refine E_seq ?_
 refine e_tidy_A108_0 [0, 1, 2, 3, 4, 5, 6, 7] ?_
 refine E_region' (L := [0, 1, 2, 3]) rfl ?_
 refine x_light rfl rfl rfl (L_load rfl (by first | exact d_bp ty_43 | exact ld_rp ty_43 rfl | exact d_ep ty_43)) ?_
 refine xmv ?_
 refine x_call rfl rfl rfl rfl rfl ca_25 (c_laws_szCracker (c) (1048576) (by omega)) ?_
 rintro r S ⟨rfl, rfl⟩
 refine xas ?_
 refine EOps_nil ?_
 refine E_seq ?_
 refine E_seq ?_
 refine E_region' (L := [0, 1]) rfl ?_
 refine xmv ?_
 refine x_pure rfl rfl rfl (L_bin rfl rfl rfl rfl) ?_
 refine EOps_nil ?_
 refine E_cond rfl (fun hc26 => ?_) (fun hc26 => ?_)
 ·refine E_seq ?_
  refine E_region' (L := [0]) rfl ?_
  refine xas ?_
  refine EOps_nil ?_
  refine E_ret ?_
  refine ⟨_, [], rfl, rfl, ?_, rfl⟩
  simp [AV.ren, ren_sc, ren_ro, AC.ren, AC.ren.rens, ix, rv1, E.get, E.ev, E.cv, E.fill', E.fill, E.slotsOf, *]
 ·have h0 : ¬ szR (1048576) (c.vals.length + c.rows.length + c.piv.length) < 0 := by simpa using hc26
  have hl0 := szR_le h0
  have hr0 := szR_rng (l := 1048576) (n := c.vals.length + c.rows.length + c.piv.length) (by omega)
  have ha0 : c.vals.length ≤ 1048576 ∧ c.rows.length ≤ 1048576 ∧ c.piv.length ≤ 1048576 := by omega
  refine E_skip ?_
  refine E_seq ?_
  refine e_tidy_A108_0 [0, 1, 2, 3, 4, 5, 6, 7, 26] ?_
  refine E_region' (L := [0, 1, 2, 3]) rfl ?_
  refine x_light rfl rfl rfl (L_load rfl (by first | exact d_bp ty_87 | exact ld_rp ty_87 rfl | exact d_ep ty_87)) ?_
  refine xmv ?_
  refine x_call rfl rfl rfl rfl rfl ca_62 (c_laws_szPending (p) (szR (1048576) (c.vals.length + c.rows.length + c.piv.length)) hr0) ?_
  rintro r S ⟨rfl, rfl⟩
  refine xas ?_
  refine EOps_nil ?_
  refine E_seq ?_
  refine E_seq ?_
  refine E_region' (L := [0, 1]) rfl ?_
  refine xmv ?_
  refine x_pure rfl rfl rfl (L_bin rfl rfl rfl rfl) ?_
  refine EOps_nil ?_
  refine E_cond rfl (fun hc31 => ?_) (fun hc31 => ?_)
  ·refine E_seq ?_
   refine E_region' (L := [0]) rfl ?_
   refine xas ?_
   refine EOps_nil ?_
   refine E_ret ?_
   refine ⟨_, [], rfl, rfl, ?_, rfl⟩
   simp [AV.ren, ren_sc, ren_ro, AC.ren, AC.ren.rens, ix, rv1, E.get, E.ev, E.cv, E.fill', E.fill, E.slotsOf, *]
  ·have h1 : ¬ szR (szR (1048576) (c.vals.length + c.rows.length + c.piv.length)) (p.ins.length + p.del.length) < 0 := by simpa using hc31
   have hl1 := szR_le h1
   have hr1 := szR_rng (l := szR (1048576) (c.vals.length + c.rows.length + c.piv.length)) (n := p.ins.length + p.del.length) hr0
   have ha1 : p.ins.length ≤ 1048576 ∧ p.del.length ≤ 1048576 := by omega
   have hw := c_spec_SelectFresh c p x ⟨ha0, ha1⟩
   have hg := c_impl_SelectFresh c p x ⟨ha0, ha1⟩
   have hle02 := sf_le (c := c) (p := p) (r := x) ha0 ha1
   have hle0 := hle02.1
   have hle2 := hle02.2
   have hle1 := (mgL_le' (c := c) (p := p) (r := x) ha0 ha1).2
   generalize sfC c p x = q at hw hg hle0
   generalize mgP c p x = t at hw hg hle1
   generalize sfL c p x = l at hw hg hle2
   refine E_skip ?_
   refine E_seq ?_
   refine e_tidy_A108_0 [0, 1, 2, 3, 4, 5, 6, 7, 26, 31] ?_
   refine E_drawT mixed ?_
   refine t_light 0 rfl rfl rfl (L_load rfl (by first | exact d_bp ty_43 | exact ld_rp ty_43 rfl | exact d_ep ty_43)) ?_
   refine t_light 2 rfl rfl rfl (L_load rfl (by first | exact d_bp ty_87 | exact ld_rp ty_87 rfl | exact d_ep ty_87)) ?_
   refine t_light 4 rfl rfl rfl (L_load rfl (by first | exact d_bp ty_45 | exact ld_rp ty_45 rfl | exact d_ep ty_45)) ?_
   refine t_main 3 [(⟨none, 11, 8, 0⟩, _), (⟨none, 12, 9, 0⟩, _)] [(1, false), (3, false), (5, false), (6, false), (7, true), (8, true), (9, true), (10, true)] [34, 36, 38, 39, 32, 40, 41, 42] [(8, .any), (9, .any), (34, .any), (36, .any), (38, .any), (39, .any), (32, .any), (40, .any), (41, .any), (42, .any)] [1, 3, 5, 6, 7, 8, 9, 10, 11, 12] ⟨.one rfl rfl rfl (by decide) (F_alloc rfl za_49), .one rfl rfl rfl (by decide) (F_alloc rfl za_91), trivial⟩ ?_
   refine m_call rfl rfl rfl rfl rfl ca_27 (c_laws_toCracker c ha0) ?_
   rintro r S ⟨rfl, rfl⟩
   refine m_call rfl rfl rfl rfl rfl ca_64 (c_laws_toPending p ha1) ?_
   rintro r S ⟨rfl, rfl⟩
   refine m_call rfl rfl rfl rfl rfl ca_28 (c_laws_toRange x.1 x.2) ?_
   rintro r S ⟨rfl, rfl⟩
   refine m_call rfl rfl rfl rfl rfl ca_63 (hw) ?_
   rintro r S ⟨rfl, rfl⟩
   refine m_pure rfl rfl rfl (L_move rfl) ?_
   refine m_pure rfl rfl rfl (L_extract rfl rfl) ?_
   refine m_pure rfl rfl rfl (L_extract rfl rfl) ?_
   refine m_pure rfl rfl rfl (L_extract rfl rfl) ?_
   refine m_done ?_
   refine fk_cons ?_
   rintro r S ⟨rfl, rfl⟩
   refine fk_cons ?_
   rintro r S ⟨rfl, rfl⟩
   refine fk_nil ?_
   refine t_turn 13 rfl rfl (EOp_store rfl rfl rfl (by first | exact s_bp ty_49 | exact s_ep ty_49) ?_)
   refine t_turn 14 rfl rfl (EOp_store rfl rfl rfl (by first | exact s_bp ty_91 | exact s_ep ty_91) ?_)
   refine t_old 15 rfl rfl rfl (L_assign rfl) ?_
   refine T_done (by kernel_rfl) ?_
   refine E_seq ?_
   refine e_tidy_A108_0 [0, 1, 2, 3, 4, 5, 6, 7, 8, 9, 10, 26, 31] ?_
   refine E_region' (L := [0, 1, 2, 3]) rfl ?_
   refine x_light rfl rfl rfl (L_load rfl (by first | exact d_bp ty_43 | exact ld_rp ty_43 rfl | exact d_ep ty_43)) ?_
   refine x_call rfl rfl rfl rfl rfl ca_27 (c_laws_toCracker c ha0) ?_
   rintro r S ⟨rfl, rfl⟩
   refine x_alloc rfl rfl rfl rfl za_49 ?_
   refine EOps_go rfl rfl (EOp_store rfl rfl rfl (by first | exact s_bp ty_49 | exact s_ep ty_49) ?_)
   refine EOps_nil ?_
   refine E_seq ?_
   refine e_tidy_A108_0 [0, 1, 2, 3, 4, 5, 6, 7, 8, 9, 10, 11, 26, 31] ?_
   refine E_region' (L := [0, 1, 2, 3]) rfl ?_
   refine x_light rfl rfl rfl (L_load rfl (by first | exact d_bp ty_87 | exact ld_rp ty_87 rfl | exact d_ep ty_87)) ?_
   refine x_call rfl rfl rfl rfl rfl ca_64 (c_laws_toPending p ha1) ?_
   rintro r S ⟨rfl, rfl⟩
   refine x_alloc rfl rfl rfl rfl za_91 ?_
   refine EOps_go rfl rfl (EOp_store rfl rfl rfl (by first | exact s_bp ty_91 | exact s_ep ty_91) ?_)
   refine EOps_nil ?_
   refine E_seq ?_
   refine e_tidy_A108_0 [0, 1, 2, 3, 4, 5, 6, 7, 8, 9, 10, 11, 12, 26, 31] ?_
   refine E_drawT mixed ?_
   refine t_light 0 rfl rfl rfl (L_load rfl (by first | exact d_bp ty_49 | exact ld_rp ty_49 rfl | exact d_ep ty_49)) ?_
   refine t_light 1 rfl rfl rfl (L_load rfl (by first | exact d_bp ty_91 | exact ld_rp ty_91 rfl | exact d_ep ty_91)) ?_
   refine t_light 2 rfl rfl rfl (L_load rfl (by first | exact d_bp ty_45 | exact ld_rp ty_45 rfl | exact d_ep ty_45)) ?_
   refine t_main 3 [(⟨none, 9, 13, 0⟩, _), (⟨none, 10, 14, 0⟩, _)] [(3, false), (4, false), (5, true), (6, true), (7, true), (8, true)] [51, 52, 47, 53, 54, 55] [(13, .any), (14, .any), (51, .any), (52, .any), (47, .any), (53, .any), (54, .any), (55, .any)] [3, 4, 5, 6, 7, 8, 9, 10] ⟨.one rfl rfl rfl (by decide) (F_alloc rfl za_49), .one rfl rfl rfl (by decide) (F_alloc rfl za_91), trivial⟩ ?_
   refine m_call rfl rfl rfl rfl rfl ca_28 (c_laws_toRange x.1 x.2) ?_
   rintro r S ⟨rfl, rfl⟩
   refine m_call rfl rfl rfl rfl rfl ca_65 (hg) ?_
   rintro r S ⟨rfl, rfl⟩
   refine m_pure rfl rfl rfl (L_move rfl) ?_
   refine m_pure rfl rfl rfl (L_extract rfl rfl) ?_
   refine m_pure rfl rfl rfl (L_extract rfl rfl) ?_
   refine m_pure rfl rfl rfl (L_extract rfl rfl) ?_
   refine m_done ?_
   refine fk_cons ?_
   rintro r S ⟨rfl, rfl⟩
   refine fk_cons ?_
   rintro r S ⟨rfl, rfl⟩
   refine fk_nil ?_
   refine t_turn 11 rfl rfl (EOp_store rfl rfl rfl (by first | exact s_bp ty_49 | exact s_ep ty_49) ?_)
   refine t_turn 12 rfl rfl (EOp_store rfl rfl rfl (by first | exact s_bp ty_91 | exact s_ep ty_91) ?_)
   refine t_old 13 rfl rfl rfl (L_assign rfl) ?_
   refine T_done (by kernel_rfl) ?_
   refine E_seq ?_
   refine E_seq ?_
   refine e_tidy_A108_0 [0, 1, 2, 3, 4, 5, 6, 7, 8, 9, 10, 11, 12, 13, 14, 15, 26, 31] ?_
   refine E_region' (L := [0, 1, 2, 3, 4, 5, 6, 7, 8, 9, 10, 11, 12, 13, 14, 15]) rfl ?_
   refine x_light rfl rfl rfl (L_load rfl (by first | exact d_bp ty_49 | exact ld_rp ty_49 rfl | exact d_ep ty_49)) ?_
   refine x_light rfl rfl rfl (L_load rfl (by first | exact d_bp ty_49 | exact ld_rp ty_49 rfl | exact d_ep ty_49)) ?_
   refine x_call rfl rfl rfl rfl rfl ca_30 (c_laws_eqCracker q q) ?_
   rintro r S ⟨rfl, rfl⟩
   refine x_pure rfl rfl rfl (L_not rfl rfl) ?_
   refine xmv ?_
   refine EOps_split 60 (b := _) rfl (fun hg60 => ?_) (fun hg60 => ?_)
   ·first | (simp at hg60; done) | (simp at hg60; omega)
   ·refine x_light rfl rfl rfl (L_load rfl (by first | exact d_bp ty_91 | exact ld_rp ty_91 rfl | exact d_ep ty_91)) ?_
    refine x_light rfl rfl rfl (L_load rfl (by first | exact d_bp ty_91 | exact ld_rp ty_91 rfl | exact d_ep ty_91)) ?_
    refine x_call rfl rfl rfl rfl rfl ca_66 (c_laws_eqPending t t) ?_
    rintro r S ⟨rfl, rfl⟩
    refine x_pure rfl rfl rfl (L_not rfl rfl) ?_
    refine x_pure rfl rfl rfl (L_pick rfl rfl) ?_
    refine xmv ?_
    refine EOps_split 66 (b := _) rfl (fun hg66 => ?_) (fun hg66 => ?_)
    ·first | (simp at hg66; done) | (simp at hg66; omega)
    ·refine xmv ?_
     refine xmv ?_
     refine x_call rfl rfl rfl rfl rfl ca_19 (c_laws_eqIntS l l) ?_
     rintro r S ⟨rfl, rfl⟩
     refine x_pure rfl rfl rfl (L_not rfl rfl) ?_
     refine x_pure rfl rfl rfl (L_pick rfl rfl) ?_
     refine EOps_nil ?_
     refine E_cond rfl (fun hc71 => ?_) (fun hc71 => ?_)
     ·first | (simp at hc71; done) | (simp at hc71; omega)
     ·refine E_skip ?_
      refine E_seq ?_
      refine E_seq ?_
      refine e_tidy_A108_0 [0, 1, 2, 3, 4, 5, 6, 7, 8, 9, 10, 11, 12, 13, 14, 15, 26, 31, 71] ?_
      refine E_drawT mixed ?_
      refine t_light 0 rfl rfl rfl (L_load rfl (by first | exact d_bp ty_49 | exact ld_rp ty_49 rfl | exact d_ep ty_49)) ?_
      refine t_light 1 rfl rfl rfl (L_load rfl (by first | exact d_bp ty_43 | exact ld_rp ty_43 rfl | exact d_ep ty_43)) ?_
      refine t_call 2 rfl rfl rfl rfl rfl ca_27 (c_laws_toCracker c ha0) ?_
      rintro r S ⟨rfl, rfl⟩
      refine t_call 3 rfl rfl rfl rfl rfl ca_30 (c_laws_eqCracker c c) ?_
      rintro r S ⟨rfl, rfl⟩
      refine t_old 4 rfl rfl rfl (L_not rfl rfl) ?_
      refine T_done (by kernel_rfl) ?_
      refine E_cond rfl (fun hc76 => ?_) (fun hc76 => ?_)
      ·first | (simp at hc76; done) | (simp at hc76; omega)
      ·refine E_skip ?_
       refine E_seq ?_
       refine E_seq ?_
       refine e_tidy_A108_0 [0, 1, 2, 3, 4, 5, 6, 7, 8, 9, 10, 11, 12, 13, 14, 15, 26, 31, 71, 76] ?_
       refine E_drawT mixed ?_
       refine t_light 0 rfl rfl rfl (L_load rfl (by first | exact d_bp ty_91 | exact ld_rp ty_91 rfl | exact d_ep ty_91)) ?_
       refine t_light 1 rfl rfl rfl (L_load rfl (by first | exact d_bp ty_87 | exact ld_rp ty_87 rfl | exact d_ep ty_87)) ?_
       refine t_call 2 rfl rfl rfl rfl rfl ca_64 (c_laws_toPending p ha1) ?_
       rintro r S ⟨rfl, rfl⟩
       refine t_call 3 rfl rfl rfl rfl rfl ca_66 (c_laws_eqPending p p) ?_
       rintro r S ⟨rfl, rfl⟩
       refine t_old 4 rfl rfl rfl (L_not rfl rfl) ?_
       refine T_done (by kernel_rfl) ?_
       refine E_cond rfl (fun hc81 => ?_) (fun hc81 => ?_)
       ·first | (simp at hc81; done) | (simp at hc81; omega)
       ·refine E_skip ?_
        refine E_seq ?_
        refine E_region' (L := [0]) rfl ?_
        refine xas ?_
        refine EOps_nil ?_
        refine E_seq ?_
        refine e_tidy_A108_0 [0, 1, 2, 3, 4, 5, 6, 7, 8, 9, 10, 11, 12, 13, 14, 15, 16, 26, 31, 71, 76, 81] ?_
        refine E_region' (L := [0, 1, 2, 3]) rfl ?_
        refine x_light rfl rfl rfl (L_load rfl (by first | exact d_bp ty_49 | exact ld_rp ty_49 rfl | exact d_ep ty_49)) ?_
        refine xmv ?_
        refine x_frame [16, 17, 18] rfl rfl rfl rfl rfl ca_32 rfl (c_laws_markCracker _ _ _ (1) c _ _ _ rfl rfl rfl ha0 (by omega)) ?_
        rintro r S ⟨r0, S0, ⟨rfl, rfl⟩, rfl, rfl⟩
        refine xas ?_
        refine EOps_nil ?_
        refine E_seq ?_
        refine e_tidy_A108_0 [0, 1, 2, 3, 4, 5, 6, 7, 8, 9, 10, 11, 12, 13, 14, 15, 16, 26, 31, 71, 76, 81] ?_
        refine E_region' (L := [0, 1, 2, 3]) rfl ?_
        refine x_light rfl rfl rfl (L_load rfl (by first | exact d_bp ty_91 | exact ld_rp ty_91 rfl | exact d_ep ty_91)) ?_
        refine xmv ?_
        refine x_frame [20, 21] rfl rfl rfl rfl rfl ca_67 rfl (c_laws_markPending _ _ (1 + c.vals.length + c.rows.length + 2 * c.piv.length) p _ _ rfl rfl ha1 (by omega)) ?_
        rintro r S ⟨r0, S0, ⟨rfl, rfl⟩, rfl, rfl⟩
        refine xas ?_
        refine EOps_nil ?_
        refine E_seq ?_
        refine E_seq ?_
        refine e_tidy_A108_0 [0, 1, 2, 3, 4, 5, 6, 7, 8, 9, 10, 11, 12, 13, 14, 15, 16, 26, 31, 71, 76, 81] ?_
        refine E_region' (L := [0, 1, 2, 3, 4, 5, 6, 7, 8, 9, 10, 11, 12, 13, 14, 15, 16, 17, 18, 19]) rfl ?_
        refine xmv ?_
        refine x_pure rfl rfl rfl (L_bin rfl rfl rfl rfl) ?_
        refine xmv ?_
        refine EOps_split 90 (b := _) rfl (fun hg90 => ?_) (fun hg90 => ?_)
        ·first | (simp at hg90; done) | (simp at hg90; omega)
        ·refine x_light rfl rfl rfl (L_load rfl (by first | exact d_bp ty_49 | exact ld_rp ty_49 rfl | exact d_ep ty_49)) ?_
         refine x_light rfl rfl rfl (L_load rfl (by first | exact d_bp ty_49 | exact ld_rp ty_49 rfl | exact d_ep ty_49)) ?_
         refine x_call rfl rfl rfl rfl rfl ca_30 (c_laws_eqCracker q q) ?_
         rintro r S ⟨rfl, rfl⟩
         refine x_pure rfl rfl rfl (L_not rfl rfl) ?_
         refine x_pure rfl rfl rfl (L_pick rfl rfl) ?_
         refine xmv ?_
         refine EOps_split 96 (b := _) rfl (fun hg96 => ?_) (fun hg96 => ?_)
         ·first | (simp at hg96; done) | (simp at hg96; omega)
         ·refine x_light rfl rfl rfl (L_load rfl (by first | exact d_bp ty_91 | exact ld_rp ty_91 rfl | exact d_ep ty_91)) ?_
          refine x_light rfl rfl rfl (L_load rfl (by first | exact d_bp ty_91 | exact ld_rp ty_91 rfl | exact d_ep ty_91)) ?_
          refine x_call rfl rfl rfl rfl rfl ca_66 (c_laws_eqPending t t) ?_
          rintro r S ⟨rfl, rfl⟩
          refine x_pure rfl rfl rfl (L_not rfl rfl) ?_
          refine x_pure rfl rfl rfl (L_pick rfl rfl) ?_
          refine xmv ?_
          refine EOps_split 102 (b := _) rfl (fun hg102 => ?_) (fun hg102 => ?_)
          ·first | (simp at hg102; done) | (simp at hg102; omega)
          ·refine xmv ?_
           refine xmv ?_
           refine x_call rfl rfl rfl rfl rfl ca_19 (c_laws_eqIntS l l) ?_
           rintro r S ⟨rfl, rfl⟩
           refine x_pure rfl rfl rfl (L_not rfl rfl) ?_
           refine x_pure rfl rfl rfl (L_pick rfl rfl) ?_
           refine EOps_nil ?_
           refine E_cond rfl (fun hc107 => ?_) (fun hc107 => ?_)
           ·first | (simp at hc107; done) | (simp at hc107; omega)
           ·refine E_skip ?_
            refine E_seq ?_
            refine E_region' (L := [0]) rfl ?_
            refine xas ?_
            refine EOps_nil ?_
            refine E_seq ?_
            refine e_tidy_A108_0 [0, 1, 2, 3, 4, 5, 6, 7, 8, 9, 10, 11, 12, 13, 14, 15, 16, 17, 26, 31, 71, 76, 81, 107] ?_
            refine E_region' (L := [0, 1, 2, 3]) rfl ?_
            refine x_light rfl rfl rfl (L_load rfl (by first | exact d_bp ty_49 | exact ld_rp ty_49 rfl | exact d_ep ty_49)) ?_
            refine xmv ?_
            refine x_frame [23, 24, 25] rfl rfl rfl rfl rfl ca_32 rfl (c_laws_markCracker _ _ _ (1) q _ _ _ rfl rfl rfl hle0 (by omega)) ?_
            rintro r S ⟨r0, S0, ⟨rfl, rfl⟩, rfl, rfl⟩
            refine xas ?_
            refine EOps_nil ?_
            refine E_seq ?_
            refine e_tidy_A108_0 [0, 1, 2, 3, 4, 5, 6, 7, 8, 9, 10, 11, 12, 13, 14, 15, 16, 17, 26, 31, 71, 76, 81, 107] ?_
            refine E_region' (L := [0, 1, 2, 3]) rfl ?_
            refine x_light rfl rfl rfl (L_load rfl (by first | exact d_bp ty_91 | exact ld_rp ty_91 rfl | exact d_ep ty_91)) ?_
            refine xmv ?_
            refine x_frame [26, 27] rfl rfl rfl rfl rfl ca_67 rfl (c_laws_markPending _ _ (1 + q.vals.length + q.rows.length + 2 * q.piv.length) t _ _ rfl rfl hle1 (by omega)) ?_
            rintro r S ⟨r0, S0, ⟨rfl, rfl⟩, rfl, rfl⟩
            refine xas ?_
            refine EOps_nil ?_
            refine E_seq ?_
            refine e_tidy_A108_0 [0, 1, 2, 3, 4, 5, 6, 7, 8, 9, 10, 11, 12, 13, 14, 15, 16, 17, 26, 31, 71, 76, 81, 107] ?_
            refine E_region' (L := [0, 1, 2, 3]) rfl ?_
            refine xmv ?_
            refine xmv ?_
            refine x_frame [28] rfl rfl rfl rfl rfl ca_21 rfl (c_laws_markIntS _ (l.length) (1 + q.vals.length + q.rows.length + 2 * q.piv.length + 2 * t.ins.length + t.del.length) l rfl hle2 (by omega)) ?_
            rintro r S ⟨r0, S0, ⟨rfl, rfl⟩, rfl, rfl⟩
            refine xas ?_
            refine EOps_nil ?_
            refine E_seq ?_
            refine E_region' (L := [0]) rfl ?_
            refine xas ?_
            refine EOps_nil ?_
            refine E_seq ?_
            refine e_tidy_A108_0 [0, 1, 2, 3, 4, 5, 6, 7, 8, 9, 10, 11, 12, 13, 14, 15, 16, 17, 18, 26, 31, 71, 76, 81, 107] ?_
            refine E_region' (L := [0, 1, 2, 3]) rfl ?_
            refine x_light rfl rfl rfl (L_load rfl (by first | exact d_bp ty_49 | exact ld_rp ty_49 rfl | exact d_ep ty_49)) ?_
            refine xmv ?_
            refine x_call rfl rfl rfl rfl rfl ca_33 (c_laws_heldCracker (1) (q.vals.length) (q.rows.length) (q.piv.length) hle0 (by omega)) ?_ (ha := by exact cons_eq (agg_eq (cons_eq (lendC_whole rfl (by simp [ints_len, seqF_len])) (cons_eq (lendC_whole rfl (by simp [ints_len, seqF_len])) (cons_eq (lendC_whole rfl (by simp [pairs_len, seqP_len])) rfl)))) (cons_eq rfl rfl))
            rintro r S ⟨rfl, rfl⟩
            refine xas ?_
            refine EOps_nil ?_
            refine E_seq ?_
            refine E_seq ?_
            refine E_region' (L := [0, 1]) rfl ?_
            refine xmv ?_
            refine x_pure rfl rfl rfl (L_bin rfl rfl rfl rfl) ?_
            refine EOps_nil ?_
            refine E_cond rfl (fun hc121 => ?_) (fun hc121 => ?_)
            ·first | (simp at hc121; done) | (simp at hc121; omega)
            ·refine E_skip ?_
             refine E_seq ?_
             refine e_tidy_A108_0 [0, 1, 2, 3, 4, 5, 6, 7, 8, 9, 10, 11, 12, 13, 14, 15, 16, 17, 18, 26, 31, 71, 76, 81, 107, 121] ?_
             refine E_region' (L := [0, 1, 2, 3]) rfl ?_
             refine x_light rfl rfl rfl (L_load rfl (by first | exact d_bp ty_91 | exact ld_rp ty_91 rfl | exact d_ep ty_91)) ?_
             refine xmv ?_
             refine x_call rfl rfl rfl rfl rfl ca_68 (c_laws_heldPending (1 + q.vals.length + q.rows.length + 2 * q.piv.length) (t.ins.length) (t.del.length) hle1 (by omega)) ?_ (ha := by exact cons_eq (agg_eq (cons_eq (lendC_whole rfl (by simp [pairs_len, seqP_len])) (cons_eq (lendC_whole rfl (by simp [ints_len, seqF_len])) rfl))) (cons_eq rfl rfl))
             rintro r S ⟨rfl, rfl⟩
             refine xas ?_
             refine EOps_nil ?_
             refine E_seq ?_
             refine E_seq ?_
             refine E_region' (L := [0, 1]) rfl ?_
             refine xmv ?_
             refine x_pure rfl rfl rfl (L_bin rfl rfl rfl rfl) ?_
             refine EOps_nil ?_
             refine E_cond rfl (fun hc126 => ?_) (fun hc126 => ?_)
             ·first | (simp at hc126; done) | (simp at hc126; omega)
             ·refine E_skip ?_
              refine E_seq ?_
              refine e_tidy_A108_0 [0, 1, 2, 3, 4, 5, 6, 7, 8, 9, 10, 11, 12, 13, 14, 15, 16, 17, 18, 26, 31, 71, 76, 81, 107, 121, 126] ?_
              refine E_region' (L := [0, 1, 2, 3]) rfl ?_
              refine xmv ?_
              refine xmv ?_
              refine x_call rfl rfl rfl rfl rfl ca_34 (c_laws_heldIntS (l.length) (1 + q.vals.length + q.rows.length + 2 * q.piv.length + 2 * t.ins.length + t.del.length) hle2 (by omega)) ?_ (ha := by exact cons_eq (lend_whole rfl (by simp [ints_len, seqF_len])) (cons_eq rfl rfl))
              rintro r S ⟨rfl, rfl⟩
              refine xas ?_
              refine EOps_nil ?_
              refine E_seq ?_
              refine E_seq ?_
              refine E_region' (L := [0, 1]) rfl ?_
              refine xmv ?_
              refine x_pure rfl rfl rfl (L_bin rfl rfl rfl rfl) ?_
              refine EOps_nil ?_
              refine E_cond rfl (fun hc131 => ?_) (fun hc131 => ?_)
              ·first | (simp at hc131; done) | (simp at hc131; omega)
              ·refine E_skip ?_
               refine E_seq ?_
               refine E_seq ?_
               refine E_region' (L := [0, 1, 2]) rfl ?_
               refine xmv ?_
               refine xmv ?_
               refine x_pure rfl rfl rfl (L_bin rfl rfl rfl rfl) ?_
               refine EOps_nil ?_
               refine E_cond rfl (fun hc134 => ?_) (fun hc134 => ?_)
               ·first | (simp at hc134; done) | (simp at hc134; omega)
               ·refine E_skip ?_
                refine E_seq ?_
                refine e_tidy_A108_0 [0, 1, 2, 3, 4, 5, 6, 7, 8, 9, 10, 11, 12, 13, 14, 15, 16, 17, 18, 26, 31, 71, 76, 81, 107, 121, 126, 131, 134] ?_
                refine E_drawT mixed ?_
                refine t_light 0 rfl rfl rfl (L_load rfl (by first | exact d_bp ty_43 | exact ld_rp ty_43 rfl | exact d_ep ty_43)) ?_
                refine t_light 2 rfl rfl rfl (L_load rfl (by first | exact d_bp ty_87 | exact ld_rp ty_87 rfl | exact d_ep ty_87)) ?_
                refine t_light 4 rfl rfl rfl (L_load rfl (by first | exact d_bp ty_45 | exact ld_rp ty_45 rfl | exact d_ep ty_45)) ?_
                refine t_main 3 [(⟨none, 11, 19, 0⟩, _), (⟨none, 12, 20, 0⟩, _)] [(1, false), (3, false), (5, false), (6, false), (7, true), (8, true), (9, true), (10, true)] [137, 139, 141, 142, 135, 143, 144, 145] [(19, .any), (20, .any), (137, .any), (139, .any), (141, .any), (142, .any), (135, .any), (143, .any), (144, .any), (145, .any)] [1, 3, 5, 6, 7, 8, 9, 10, 11, 12] ⟨.one rfl rfl rfl (by decide) (F_alloc rfl za_49), .one rfl rfl rfl (by decide) (F_alloc rfl za_91), trivial⟩ ?_
                refine m_call rfl rfl rfl rfl rfl ca_27 (c_laws_toCracker c ha0) ?_
                rintro r S ⟨rfl, rfl⟩
                refine m_call rfl rfl rfl rfl rfl ca_64 (c_laws_toPending p ha1) ?_
                rintro r S ⟨rfl, rfl⟩
                refine m_call rfl rfl rfl rfl rfl ca_28 (c_laws_toRange x.1 x.2) ?_
                rintro r S ⟨rfl, rfl⟩
                refine m_call rfl rfl rfl rfl rfl ca_65 (hg) ?_
                rintro r S ⟨rfl, rfl⟩
                refine m_pure rfl rfl rfl (L_move rfl) ?_
                refine m_pure rfl rfl rfl (L_extract rfl rfl) ?_
                refine m_pure rfl rfl rfl (L_extract rfl rfl) ?_
                refine m_pure rfl rfl rfl (L_extract rfl rfl) ?_
                refine m_done ?_
                refine fk_cons ?_
                rintro r S ⟨rfl, rfl⟩
                refine fk_cons ?_
                rintro r S ⟨rfl, rfl⟩
                refine fk_nil ?_
                refine t_turn 13 rfl rfl (EOp_store rfl rfl rfl (by first | exact s_bp ty_49 | exact s_ep ty_49) ?_)
                refine t_turn 14 rfl rfl (EOp_store rfl rfl rfl (by first | exact s_bp ty_91 | exact s_ep ty_91) ?_)
                refine t_old 15 rfl rfl rfl (L_assign rfl) ?_
                refine T_done (by kernel_rfl) ?_
                refine E_seq ?_
                refine E_seq ?_
                refine e_tidy_A108_0 [0, 1, 2, 3, 4, 5, 6, 7, 8, 9, 10, 11, 12, 13, 14, 15, 16, 17, 18, 19, 20, 21, 26, 31, 71, 76, 81, 107, 121, 126, 131, 134] ?_
                refine E_region' (L := [0, 1, 2, 3, 4, 5, 6, 7, 8, 9, 10, 11, 12, 13, 14, 15]) rfl ?_
                refine x_light rfl rfl rfl (L_load rfl (by first | exact d_bp ty_49 | exact ld_rp ty_49 rfl | exact d_ep ty_49)) ?_
                refine x_light rfl rfl rfl (L_load rfl (by first | exact d_bp ty_49 | exact ld_rp ty_49 rfl | exact d_ep ty_49)) ?_
                refine x_call rfl rfl rfl rfl rfl ca_30 (c_laws_eqCracker q q) ?_
                rintro r S ⟨rfl, rfl⟩
                refine x_pure rfl rfl rfl (L_not rfl rfl) ?_
                refine xmv ?_
                refine EOps_split 150 (b := _) rfl (fun hg150 => ?_) (fun hg150 => ?_)
                ·first | (simp at hg150; done) | (simp at hg150; omega)
                ·refine x_light rfl rfl rfl (L_load rfl (by first | exact d_bp ty_91 | exact ld_rp ty_91 rfl | exact d_ep ty_91)) ?_
                 refine x_light rfl rfl rfl (L_load rfl (by first | exact d_bp ty_91 | exact ld_rp ty_91 rfl | exact d_ep ty_91)) ?_
                 refine x_call rfl rfl rfl rfl rfl ca_66 (c_laws_eqPending t t) ?_
                 rintro r S ⟨rfl, rfl⟩
                 refine x_pure rfl rfl rfl (L_not rfl rfl) ?_
                 refine x_pure rfl rfl rfl (L_pick rfl rfl) ?_
                 refine xmv ?_
                 refine EOps_split 156 (b := _) rfl (fun hg156 => ?_) (fun hg156 => ?_)
                 ·first | (simp at hg156; done) | (simp at hg156; omega)
                 ·refine xmv ?_
                  refine xmv ?_
                  refine x_call rfl rfl rfl rfl rfl ca_19 (c_laws_eqIntS l l) ?_
                  rintro r S ⟨rfl, rfl⟩
                  refine x_pure rfl rfl rfl (L_not rfl rfl) ?_
                  refine x_pure rfl rfl rfl (L_pick rfl rfl) ?_
                  refine EOps_nil ?_
                  refine E_cond rfl (fun hc161 => ?_) (fun hc161 => ?_)
                  ·first | (simp at hc161; done) | (simp at hc161; omega)
                  ·refine E_skip ?_
                   refine E_seq ?_
                   refine E_region' (L := [0]) rfl ?_
                   refine xas ?_
                   refine EOps_nil ?_
                   refine E_seq ?_
                   refine e_tidy_A108_0 [0, 1, 2, 3, 4, 5, 6, 7, 8, 9, 10, 11, 12, 13, 14, 15, 16, 17, 18, 19, 20, 21, 26, 31, 71, 76, 81, 107, 121, 126, 131, 134, 161] ?_
                   refine E_region' (L := [0, 1, 2, 3]) rfl ?_
                   refine x_light rfl rfl rfl (L_load rfl (by first | exact d_bp ty_49 | exact ld_rp ty_49 rfl | exact d_ep ty_49)) ?_
                   refine xmv ?_
                   refine x_call rfl rfl rfl rfl rfl ca_33 (c_laws_heldCracker (1) (q.vals.length) (q.rows.length) (q.piv.length) hle0 (by omega)) ?_ (ha := by exact cons_eq (agg_eq (cons_eq (lendC_whole rfl (by simp [ints_len, seqF_len])) (cons_eq (lendC_whole rfl (by simp [ints_len, seqF_len])) (cons_eq (lendC_whole rfl (by simp [pairs_len, seqP_len])) rfl)))) (cons_eq rfl rfl))
                   rintro r S ⟨rfl, rfl⟩
                   refine xas ?_
                   refine EOps_nil ?_
                   refine E_seq ?_
                   refine E_seq ?_
                   refine E_region' (L := [0, 1]) rfl ?_
                   refine xmv ?_
                   refine x_pure rfl rfl rfl (L_bin rfl rfl rfl rfl) ?_
                   refine EOps_nil ?_
                   refine E_cond rfl (fun hc166 => ?_) (fun hc166 => ?_)
                   ·first | (simp at hc166; done) | (simp at hc166; omega)
                   ·refine E_skip ?_
                    refine E_seq ?_
                    refine e_tidy_A108_0 [0, 1, 2, 3, 4, 5, 6, 7, 8, 9, 10, 11, 12, 13, 14, 15, 16, 17, 18, 19, 20, 21, 26, 31, 71, 76, 81, 107, 121, 126, 131, 134, 161, 166] ?_
                    refine E_region' (L := [0, 1, 2, 3]) rfl ?_
                    refine x_light rfl rfl rfl (L_load rfl (by first | exact d_bp ty_91 | exact ld_rp ty_91 rfl | exact d_ep ty_91)) ?_
                    refine xmv ?_
                    refine x_call rfl rfl rfl rfl rfl ca_68 (c_laws_heldPending (1 + q.vals.length + q.rows.length + 2 * q.piv.length) (t.ins.length) (t.del.length) hle1 (by omega)) ?_ (ha := by exact cons_eq (agg_eq (cons_eq (lendC_whole rfl (by simp [pairs_len, seqP_len])) (cons_eq (lendC_whole rfl (by simp [ints_len, seqF_len])) rfl))) (cons_eq rfl rfl))
                    rintro r S ⟨rfl, rfl⟩
                    refine xas ?_
                    refine EOps_nil ?_
                    refine E_seq ?_
                    refine E_seq ?_
                    refine E_region' (L := [0, 1]) rfl ?_
                    refine xmv ?_
                    refine x_pure rfl rfl rfl (L_bin rfl rfl rfl rfl) ?_
                    refine EOps_nil ?_
                    refine E_cond rfl (fun hc171 => ?_) (fun hc171 => ?_)
                    ·first | (simp at hc171; done) | (simp at hc171; omega)
                    ·refine E_skip ?_
                     refine E_seq ?_
                     refine e_tidy_A108_0 [0, 1, 2, 3, 4, 5, 6, 7, 8, 9, 10, 11, 12, 13, 14, 15, 16, 17, 18, 19, 20, 21, 26, 31, 71, 76, 81, 107, 121, 126, 131, 134, 161, 166, 171] ?_
                     refine E_region' (L := [0, 1, 2, 3]) rfl ?_
                     refine xmv ?_
                     refine xmv ?_
                     refine x_call rfl rfl rfl rfl rfl ca_34 (c_laws_heldIntS (l.length) (1 + q.vals.length + q.rows.length + 2 * q.piv.length + 2 * t.ins.length + t.del.length) hle2 (by omega)) ?_ (ha := by exact cons_eq (lend_whole rfl (by simp [ints_len, seqF_len])) (cons_eq rfl rfl))
                     rintro r S ⟨rfl, rfl⟩
                     refine xas ?_
                     refine EOps_nil ?_
                     refine E_seq ?_
                     refine E_seq ?_
                     refine E_region' (L := [0, 1]) rfl ?_
                     refine xmv ?_
                     refine x_pure rfl rfl rfl (L_bin rfl rfl rfl rfl) ?_
                     refine EOps_nil ?_
                     refine E_cond rfl (fun hc176 => ?_) (fun hc176 => ?_)
                     ·first | (simp at hc176; done) | (simp at hc176; omega)
                     ·refine E_skip ?_
                      refine E_seq ?_
                      refine E_seq ?_
                      refine E_region' (L := [0, 1, 2]) rfl ?_
                      refine xmv ?_
                      refine xmv ?_
                      refine x_pure rfl rfl rfl (L_bin rfl rfl rfl rfl) ?_
                      refine EOps_nil ?_
                      refine E_cond rfl (fun hc179 => ?_) (fun hc179 => ?_)
                      ·first | (simp at hc179; done) | (simp at hc179; omega)
                      ·refine E_skip ?_
                       refine E_seq ?_
                       refine E_region' (L := [0]) rfl ?_
                       refine xas ?_
                       refine EOps_nil ?_
                       refine E_ret ?_
                       refine ⟨_, [], rfl, rfl, ?_, rfl⟩
                       simp [AV.ren, ren_sc, ren_ro, AC.ren, AC.ren.rens, ix, rv1, E.get, E.ev, E.cv, E.fill', E.fill, E.slotsOf, *]

end Go.Proofs.YtlodlnbhjghjoaaGreat.E
