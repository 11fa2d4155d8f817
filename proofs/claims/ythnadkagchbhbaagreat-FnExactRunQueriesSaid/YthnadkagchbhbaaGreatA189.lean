/- Walks through functions, by program out of the session's annotations. -/
import Derived.Test.YthnadkagchbhbaaGreatA188
import Derived.Test.YthnadkagchbhbaaGreatA180
import Derived.Test.YthnadkagchbhbaaGreatA96
namespace Go.Proofs.YthnadkagchbhbaaGreat.E
open Go Go.RowKit Go.Proofs
set_option linter.unusedVariables false
set_option linter.unusedSimpArgs false

theorem rowsB64 {c : Crk} {lo hi : Int} : (rowsB c lo hi).length ≤ 64 := by
 rw [rowsB]
 split
 ·rename_i h
  have := (crk_lens h.1).2.1
  have := (crk_lens h.1).1
  rw [sortI_len, cutV, List.length_take, List.length_drop]
  omega
 ·simp
theorem rq_tot {xs : List Int} {s : Sett} {rs : List (Int × Int)} : ∀ k, totL (rqN xs s rs k).2.2.1 ≤ 64 * k
 | 0 => by simp [rqN, totL]
 | k + 1 => by
  have h := rq_tot (xs := xs) (s := s) (rs := rs) k
  rw [rqN]
  dsimp only
  rw [totL_app, totL, totL]
  have : (swR (sw2 (rqN xs s rs k).1 (rqN xs s rs k).2.1 (rs.getD k (0, 0))).1 (rs.getD k (0, 0))).length ≤ 64 := rowsB64
  omega
theorem rq_le {xs : List Int} {s : Sett} {rs : List (Int × Int)} : ((rqC xs s rs).vals.length ≤ 1048576 ∧ (rqC xs s rs).rows.length ≤ 1048576 ∧ (rqC xs s rs).piv.length ≤ 1048576) ∧ ((rqL xs s rs).length ≤ 1048576 ∧ totL (rqL xs s rs) ≤ 1048576) ∧ (rqK xs s rs).length ≤ 1048576 := by
 cases hq : areQ xs s rs
 ·simp [rqC, rqL, rqK, hq, totL]
 ·obtain ⟨h1, h2, h3, h4⟩ := areQ_parts hq
  have ht := rq_tot (xs := xs) (s := s) (rs := rs) rs.length
  have hk := rq_ok h1 h2 h4 rs.length (Nat.le_refl _) (c := (rqN xs s rs rs.length).1) (t := (rqN xs s rs rs.length).2.1) (ls := (rqN xs s rs rs.length).2.2.1) (cs := (rqN xs s rs rs.length).2.2.2) rfl
  have hl := crk_lens hk.oc
  have h5 := hk.ll
  have h6 := hk.lc
  simp only [rqC, rqL, rqK, hq, if_true]
  omega

theorem e_tidy_A189_0 {P : Program} {N : Nat} {s : Slots} {R : List Res} {Q : Exit → Slots → List Res → Prop} {c : Code} (keep : List Nat) {base : Slots} {R' : List Res} (h : ECode P N c base R' Q) (hb : keepOf s keep = base := by simp only [E.keepOf, E.get, E.ev, E.cv, E.fill', E.fill, E.slotsOf, Res.sh, AC.sh, AC.sh.shs, AV.sh, E.splice, List.map_cons, List.map_nil, List.cons_append, List.nil_append, List.append_nil, List.length_cons, List.length_nil, List.take_zero, List.drop_zero, List.take_succ_cons, List.drop_succ_cons, List.drop_nil, List.take_nil, List.set_cons_zero, List.set_cons_succ, Nat.zero_add, Nat.add_zero, Nat.reduceAdd, Nat.reduceSub, reduceIte, Nat.reduceEqDiff, E.back, E.backR, E.ix, Res.un, AC.un, AC.un.uns, AV.un, E.un, Option.map_some, Option.map_none, Option.getD_some, List.getElem?_cons_zero, List.getElem?_cons_succ, List.getElem?_nil, crkO, crkR]; rfl) (hR : R = R' := by (try simp only [E.keepOf, E.get, E.ev, E.cv, E.fill', E.fill, E.slotsOf, Res.sh, AC.sh, AC.sh.shs, AV.sh, E.splice, List.map_cons, List.map_nil, List.cons_append, List.nil_append, List.append_nil, List.length_cons, List.length_nil, List.take_zero, List.drop_zero, List.take_succ_cons, List.drop_succ_cons, List.drop_nil, List.take_nil, List.set_cons_zero, List.set_cons_succ, Nat.zero_add, Nat.add_zero, Nat.reduceAdd, Nat.reduceSub, reduceIte, Nat.reduceEqDiff, E.back, E.backR, E.ix, Res.un, AC.un, AC.un.uns, AV.un, E.un, Option.map_some, Option.map_none, Option.getD_some, List.getElem?_cons_zero, List.getElem?_cons_succ, List.getElem?_nil, crkO, crkR]); rfl) : ECode P N c s R Q := E_tidy keep hb hR h

set_option maxRecDepth 20000 in
set_option maxHeartbeats 8000000 in
theorem c_laws_FnExactRunQueries (xs : List Int) (s : Sett) (rs : List (Int × Int)) : EFn Tryz.prog 3 [.c (.ro (ints xs)), .agg (setC s), .c (.ro (pairs rs))] [] (fun r S => r = .c (.sc (.bool true)) ∧ S = []) := by
 refine E_fn Tryz.func3 rfl (Nat.le_of_ble_eq_true rfl) ?_
 refine E_seq ?_
 refine E_region' (L := [0, 1]) rfl ?_
 refine x_box rfl rfl rfl rfl rfl ?_
 refine xas ?_
 refine EOps_nil ?_
 refine E_seq ?_
 refine E_seq ?_
 refine E_region' (L := [0, 1, 2]) rfl ?_
 refine xmv ?_
 refine x_pure rfl rfl rfl (l_len rfl sl_22) ?_
 refine x_pure rfl rfl rfl (L_bin rfl rfl rfl rfl) ?_
 refine EOps_nil ?_
 refine E_cond rfl (fun hc24 => ?_) (fun hc24 => ?_)
 ·refine E_seq ?_
  refine E_region' (L := [0]) rfl ?_
  refine xas ?_
  refine EOps_nil ?_
  refine E_ret ?_
  refine ⟨_, [], rfl, rfl, ?_, rfl⟩
  simp [AV.ren, ren_sc, ren_ro, AC.ren, AC.ren.rens, ix, rv1, E.get, E.ev, E.cv, E.fill', E.fill, E.slotsOf, *]
 ·have ha0 : xs.length ≤ 1048576 := by simp [ints_len, pairs_len, quads_len, quints_len, bools_len] at hc24; omega
  refine E_skip ?_
  refine E_seq ?_
  refine E_region' (L := [0]) rfl ?_
  refine xas ?_
  refine EOps_nil ?_
  refine E_seq ?_
  refine e_tidy_A189_0 [0, 1, 2, 4, 6, 7, 24] ?_
  refine E_region' (L := [0, 1, 2, 3]) rfl ?_
  refine xmv ?_
  refine xmv ?_
  refine x_call rfl rfl rfl rfl rfl ca_4 (c_laws_szRangeS (rs) (1048576) (by omega)) ?_
  rintro r S ⟨rfl, rfl⟩
  refine xas ?_
  refine EOps_nil ?_
  refine E_seq ?_
  refine E_seq ?_
  refine E_region' (L := [0, 1]) rfl ?_
  refine xmv ?_
  refine x_pure rfl rfl rfl (L_bin rfl rfl rfl rfl) ?_
  refine EOps_nil ?_
  refine E_cond rfl (fun hc29 => ?_) (fun hc29 => ?_)
  ·refine E_seq ?_
   refine E_region' (L := [0]) rfl ?_
   refine xas ?_
   refine EOps_nil ?_
   refine E_ret ?_
   refine ⟨_, [], rfl, rfl, ?_, rfl⟩
   simp [AV.ren, ren_sc, ren_ro, AC.ren, AC.ren.rens, ix, rv1, E.get, E.ev, E.cv, E.fill', E.fill, E.slotsOf, *]
  ·have h0 : ¬ szR (1048576) (rs.length) < 0 := by simpa using hc29
   have hl0 := szR_le h0
   have hr0 := szR_rng (l := 1048576) (n := rs.length) (by omega)
   have ha2 : rs.length ≤ 1048576 := by omega
   have hw := c_spec_RunQueries xs s rs ha0
   have hg := c_impl_RunQueries xs s rs
   have hle := rq_le (xs := xs) (s := s) (rs := rs)
   have hle0 := hle.1
   have hle1 := hle.2.1
   have hle2 := hle.2.2
   generalize rqC xs s rs = c at hw hg hle0
   generalize rqL xs s rs = l at hw hg hle1
   generalize rqK xs s rs = n at hw hg hle2
   have hnl := nest_len l
   refine E_skip ?_
   refine E_seq ?_
   refine e_tidy_A189_0 [0, 1, 2, 4, 6, 7, 24, 29] ?_
   refine E_drawT mixed ?_
   refine t_old 0 rfl rfl rfl (L_move rfl) ?_
   refine t_light 2 rfl rfl rfl (L_load rfl (by first | exact d_bp ty_24 | exact ld_rp ty_24 rfl | exact d_ep ty_24)) ?_
   refine t_old 4 rfl rfl rfl (L_move rfl) ?_
   refine t_main 3 [(⟨none, 11, 8, 0⟩, _)] [(1, false), (3, false), (5, false), (6, false), (7, true), (8, true), (9, true), (10, true)] [32, 34, 36, 37, 30, 38, 39, 40] [(8, .any), (32, .any), (34, .any), (36, .any), (37, .any), (30, .any), (38, .any), (39, .any), (40, .any)] [1, 3, 5, 6, 7, 8, 9, 10, 11] ⟨.one rfl rfl rfl (by decide) (F_alloc rfl za_29), trivial⟩ ?_
   refine m_call rfl rfl rfl rfl rfl ca_6 (c_laws_toIntS xs ha0) ?_
   rintro r S ⟨rfl, rfl⟩
   refine m_call rfl rfl rfl rfl rfl ca_7 (c_laws_toSettings s) ?_
   rintro r S ⟨rfl, rfl⟩
   refine m_call rfl rfl rfl rfl rfl ca_8 (c_laws_toRangeS rs ha2) ?_
   rintro r S ⟨rfl, rfl⟩
   refine m_call rfl rfl rfl rfl rfl ca_5 (hw) ?_
   rintro r S ⟨rfl, rfl⟩
   refine m_pure rfl rfl rfl (L_move rfl) ?_
   refine m_pure rfl rfl rfl (L_extract rfl rfl) ?_
   refine m_pure rfl rfl rfl (L_extract rfl rfl) ?_
   refine m_pure rfl rfl rfl (L_extract rfl rfl) ?_
   refine m_done ?_
   refine fk_cons ?_
   rintro r S ⟨rfl, rfl⟩
   refine fk_nil ?_
   refine t_turn 12 rfl rfl (EOp_store rfl rfl rfl (by first | exact s_bp ty_29 | exact s_ep ty_29) ?_)
   refine t_old 13 rfl rfl rfl (L_assign rfl) ?_
   refine t_old 14 rfl rfl rfl (L_assign rfl) ?_
   refine T_done (by kernel_rfl) ?_
   refine E_seq ?_
   refine e_tidy_A189_0 [0, 1, 2, 4, 6, 7, 8, 9, 10, 24, 29] ?_
   refine E_region' (L := [0, 1, 2]) rfl ?_
   refine xmv ?_
   refine x_call rfl rfl rfl rfl rfl ca_6 (c_laws_toIntS xs ha0) ?_
   rintro r S ⟨rfl, rfl⟩
   refine xas ?_
   refine EOps_nil ?_
   refine E_seq ?_
   refine e_tidy_A189_0 [0, 1, 2, 4, 6, 7, 8, 9, 10, 11, 24, 29] ?_
   refine E_region' (L := [0, 1, 2]) rfl ?_
   refine xmv ?_
   refine x_call rfl rfl rfl rfl rfl ca_8 (c_laws_toRangeS rs ha2) ?_
   rintro r S ⟨rfl, rfl⟩
   refine xas ?_
   refine EOps_nil ?_
   refine E_seq ?_
   refine e_tidy_A189_0 [0, 1, 2, 4, 6, 7, 8, 9, 10, 11, 12, 24, 29] ?_
   refine E_region' (L := [0, 1, 2, 3, 4, 5, 6, 7, 8, 9, 10, 11, 12]) rfl ?_
   refine xmv ?_
   refine x_light rfl rfl rfl (L_load rfl (by first | exact d_bp ty_24 | exact ld_rp ty_24 rfl | exact d_ep ty_24)) ?_
   refine x_call rfl rfl rfl rfl rfl ca_7 (c_laws_toSettings s) ?_
   rintro r S ⟨rfl, rfl⟩
   refine xmv ?_
   refine x_call rfl rfl rfl rfl rfl ca_9 (hg) ?_
   rintro r S ⟨rfl, rfl⟩
   refine xmv ?_
   refine x_pure rfl rfl rfl (L_extract rfl rfl) ?_
   refine x_pure rfl rfl rfl (L_extract rfl rfl) ?_
   refine x_pure rfl rfl rfl (L_extract rfl rfl) ?_
   refine x_alloc rfl rfl rfl rfl za_29 ?_
   refine EOps_go rfl rfl (EOp_store rfl rfl rfl (by first | exact s_bp ty_29 | exact s_ep ty_29) ?_)
   refine xas ?_
   refine xas ?_
   refine EOps_nil ?_
   refine E_seq ?_
   refine E_seq ?_
   refine e_tidy_A189_0 [0, 1, 2, 4, 6, 7, 8, 9, 10, 11, 12, 13, 14, 15, 24, 29] ?_
   refine E_region' (L := [0, 1, 2, 3, 4, 5, 6, 7, 8, 9, 10, 11, 12, 13, 14, 15]) rfl ?_
   refine x_light rfl rfl rfl (L_load rfl (by first | exact d_bp ty_29 | exact ld_rp ty_29 rfl | exact d_ep ty_29)) ?_
   refine x_light rfl rfl rfl (L_load rfl (by first | exact d_bp ty_29 | exact ld_rp ty_29 rfl | exact d_ep ty_29)) ?_
   refine x_call rfl rfl rfl rfl rfl ca_10 (c_laws_eqCracker c c) ?_
   rintro r S ⟨rfl, rfl⟩
   refine x_pure rfl rfl rfl (L_not rfl rfl) ?_
   refine xmv ?_
   refine EOps_split 58 (b := _) rfl (fun hg58 => ?_) (fun hg58 => ?_)
   ·first | (simp at hg58; done) | (simp at hg58; omega)
   ·refine xmv ?_
    refine xmv ?_
    refine x_call rfl rfl rfl rfl rfl ca_11 (c_laws_eqIntSS l l) ?_
    rintro r S ⟨rfl, rfl⟩
    refine x_pure rfl rfl rfl (L_not rfl rfl) ?_
    refine x_pure rfl rfl rfl (L_pick rfl rfl) ?_
    refine xmv ?_
    refine EOps_split 64 (b := _) rfl (fun hg64 => ?_) (fun hg64 => ?_)
    ·first | (simp at hg64; done) | (simp at hg64; omega)
    ·refine xmv ?_
     refine xmv ?_
     refine x_call rfl rfl rfl rfl rfl ca_12 (c_laws_eqIntS n n) ?_
     rintro r S ⟨rfl, rfl⟩
     refine x_pure rfl rfl rfl (L_not rfl rfl) ?_
     refine x_pure rfl rfl rfl (L_pick rfl rfl) ?_
     refine EOps_nil ?_
     refine E_cond rfl (fun hc69 => ?_) (fun hc69 => ?_)
     ·first | (simp at hc69; done) | (simp at hc69; omega)
     ·refine E_skip ?_
      refine E_seq ?_
      refine E_seq ?_
      refine e_tidy_A189_0 [0, 1, 2, 4, 6, 7, 8, 9, 10, 11, 12, 13, 14, 15, 24, 29, 69] ?_
      refine E_region' (L := [0, 1, 2, 3, 4]) rfl ?_
      refine xmv ?_
      refine xmv ?_
      refine x_call rfl rfl rfl rfl rfl ca_6 (c_laws_toIntS xs ha0) ?_
      rintro r S ⟨rfl, rfl⟩
      refine x_call rfl rfl rfl rfl rfl ca_12 (c_laws_eqIntS xs xs) ?_
      rintro r S ⟨rfl, rfl⟩
      refine x_pure rfl rfl rfl (L_not rfl rfl) ?_
      refine EOps_nil ?_
      refine E_cond rfl (fun hc74 => ?_) (fun hc74 => ?_)
      ·first | (simp at hc74; done) | (simp at hc74; omega)
      ·refine E_skip ?_
       refine E_seq ?_
       refine E_seq ?_
       refine e_tidy_A189_0 [0, 1, 2, 4, 6, 7, 8, 9, 10, 11, 12, 13, 14, 15, 24, 29, 69, 74] ?_
       refine E_region' (L := [0, 1, 2, 3, 4]) rfl ?_
       refine xmv ?_
       refine xmv ?_
       refine x_call rfl rfl rfl rfl rfl ca_8 (c_laws_toRangeS rs ha2) ?_
       rintro r S ⟨rfl, rfl⟩
       refine x_call rfl rfl rfl rfl rfl ca_13 (c_laws_eqRangeS rs rs) ?_
       rintro r S ⟨rfl, rfl⟩
       refine x_pure rfl rfl rfl (L_not rfl rfl) ?_
       refine EOps_nil ?_
       refine E_cond rfl (fun hc79 => ?_) (fun hc79 => ?_)
       ·first | (simp at hc79; done) | (simp at hc79; omega)
       ·refine E_skip ?_
        refine E_seq ?_
        refine E_region' (L := [0]) rfl ?_
        refine xas ?_
        refine EOps_nil ?_
        refine E_seq ?_
        refine e_tidy_A189_0 [0, 1, 2, 4, 6, 7, 8, 9, 10, 11, 12, 13, 14, 15, 16, 24, 29, 69, 74, 79] ?_
        refine E_region' (L := [0, 1, 2, 3]) rfl ?_
        refine xmv ?_
        refine xmv ?_
        refine x_frame [9] rfl rfl rfl rfl rfl ca_14 rfl (c_laws_markIntS _ (xs.length) (1) xs rfl ha0 (by omega)) ?_
        rintro r S ⟨r0, S0, ⟨rfl, rfl⟩, rfl, rfl⟩
        refine xas ?_
        refine EOps_nil ?_
        refine E_seq ?_
        refine e_tidy_A189_0 [0, 1, 2, 4, 6, 7, 8, 9, 10, 11, 12, 13, 14, 15, 16, 24, 29, 69, 74, 79] ?_
        refine E_region' (L := [0, 1, 2, 3]) rfl ?_
        refine xmv ?_
        refine xmv ?_
        refine x_frame [10] rfl rfl rfl rfl rfl ca_15 rfl (c_laws_markRangeS _ (rs.length) (1 + xs.length) rs rfl ha2 (by omega)) ?_
        rintro r S ⟨r0, S0, ⟨rfl, rfl⟩, rfl, rfl⟩
        refine xas ?_
        refine EOps_nil ?_
        refine E_seq ?_
        refine E_seq ?_
        refine e_tidy_A189_0 [0, 1, 2, 4, 6, 7, 8, 9, 10, 11, 12, 13, 14, 15, 16, 24, 29, 69, 74, 79] ?_
        refine E_region' (L := [0, 1, 2, 3, 4, 5, 6, 7, 8, 9, 10, 11, 12, 13, 14, 15, 16, 17, 18, 19]) rfl ?_
        refine xmv ?_
        refine x_pure rfl rfl rfl (L_bin rfl rfl rfl rfl) ?_
        refine xmv ?_
        refine EOps_split 88 (b := _) rfl (fun hg88 => ?_) (fun hg88 => ?_)
        ·first | (simp at hg88; done) | (simp at hg88; omega)
        ·refine x_light rfl rfl rfl (L_load rfl (by first | exact d_bp ty_29 | exact ld_rp ty_29 rfl | exact d_ep ty_29)) ?_
         refine x_light rfl rfl rfl (L_load rfl (by first | exact d_bp ty_29 | exact ld_rp ty_29 rfl | exact d_ep ty_29)) ?_
         refine x_call rfl rfl rfl rfl rfl ca_10 (c_laws_eqCracker c c) ?_
         rintro r S ⟨rfl, rfl⟩
         refine x_pure rfl rfl rfl (L_not rfl rfl) ?_
         refine x_pure rfl rfl rfl (L_pick rfl rfl) ?_
         refine xmv ?_
         refine EOps_split 94 (b := _) rfl (fun hg94 => ?_) (fun hg94 => ?_)
         ·first | (simp at hg94; done) | (simp at hg94; omega)
         ·refine xmv ?_
          refine xmv ?_
          refine x_call rfl rfl rfl rfl rfl ca_11 (c_laws_eqIntSS l l) ?_
          rintro r S ⟨rfl, rfl⟩
          refine x_pure rfl rfl rfl (L_not rfl rfl) ?_
          refine x_pure rfl rfl rfl (L_pick rfl rfl) ?_
          refine xmv ?_
          refine EOps_split 100 (b := _) rfl (fun hg100 => ?_) (fun hg100 => ?_)
          ·first | (simp at hg100; done) | (simp at hg100; omega)
          ·refine xmv ?_
           refine xmv ?_
           refine x_call rfl rfl rfl rfl rfl ca_12 (c_laws_eqIntS n n) ?_
           rintro r S ⟨rfl, rfl⟩
           refine x_pure rfl rfl rfl (L_not rfl rfl) ?_
           refine x_pure rfl rfl rfl (L_pick rfl rfl) ?_
           refine EOps_nil ?_
           refine E_cond rfl (fun hc105 => ?_) (fun hc105 => ?_)
           ·first | (simp at hc105; done) | (simp at hc105; omega)
           ·refine E_skip ?_
            refine E_seq ?_
            refine E_region' (L := [0]) rfl ?_
            refine xas ?_
            refine EOps_nil ?_
            refine E_seq ?_
            refine e_tidy_A189_0 [0, 1, 2, 4, 6, 7, 8, 9, 10, 11, 12, 13, 14, 15, 16, 17, 24, 29, 69, 74, 79, 105] ?_
            refine E_region' (L := [0, 1, 2, 3]) rfl ?_
            refine x_light rfl rfl rfl (L_load rfl (by first | exact d_bp ty_29 | exact ld_rp ty_29 rfl | exact d_ep ty_29)) ?_
            refine xmv ?_
            refine x_frame [11, 12, 13] rfl rfl rfl rfl rfl ca_16 rfl (c_laws_markCracker _ _ _ (1) c _ _ _ rfl rfl rfl hle0 (by omega)) ?_
            rintro r S ⟨r0, S0, ⟨rfl, rfl⟩, rfl, rfl⟩
            refine xas ?_
            refine EOps_nil ?_
            refine E_seq ?_
            refine e_tidy_A189_0 [0, 1, 2, 4, 6, 7, 8, 9, 10, 11, 12, 13, 14, 15, 16, 17, 24, 29, 69, 74, 79, 105] ?_
            refine E_region' (L := [0, 1, 2, 3]) rfl ?_
            refine xmv ?_
            refine xmv ?_
            refine x_frame [14] rfl rfl rfl rfl rfl ca_17 rfl (c_laws_markIntSS _ (l.length) (1 + c.vals.length + c.rows.length + 2 * c.piv.length) l rfl hle1 (by omega)) ?_
            rintro r S ⟨r0, S0, ⟨rfl, rfl⟩, rfl, rfl⟩
            refine xas ?_
            refine EOps_nil ?_
            refine E_seq ?_
            refine e_tidy_A189_0 [0, 1, 2, 4, 6, 7, 8, 9, 10, 11, 12, 13, 14, 15, 16, 17, 24, 29, 69, 74, 79, 105] ?_
            refine E_region' (L := [0, 1, 2, 3]) rfl ?_
            refine xmv ?_
            refine xmv ?_
            refine x_frame [15] rfl rfl rfl rfl rfl ca_14 rfl (c_laws_markIntS _ (n.length) (1 + c.vals.length + c.rows.length + 2 * c.piv.length + totL l) n rfl hle2 (by omega)) ?_
            rintro r S ⟨r0, S0, ⟨rfl, rfl⟩, rfl, rfl⟩
            refine xas ?_
            refine EOps_nil ?_
            refine E_seq ?_
            refine E_region' (L := [0]) rfl ?_
            refine xas ?_
            refine EOps_nil ?_
            refine E_seq ?_
            refine e_tidy_A189_0 [0, 1, 2, 4, 6, 7, 8, 9, 10, 11, 12, 13, 14, 15, 16, 17, 18, 24, 29, 69, 74, 79, 105] ?_
            refine E_region' (L := [0, 1, 2, 3]) rfl ?_
            refine x_light rfl rfl rfl (L_load rfl (by first | exact d_bp ty_29 | exact ld_rp ty_29 rfl | exact d_ep ty_29)) ?_
            refine xmv ?_
            refine x_call rfl rfl rfl rfl rfl ca_18 (c_laws_heldCracker (1) (c.vals.length) (c.rows.length) (c.piv.length) hle0 (by omega)) ?_ (ha := by exact cons_eq (agg_eq (cons_eq (lendC_whole rfl (by simp [ints_len, seqF_len])) (cons_eq (lendC_whole rfl (by simp [ints_len, seqF_len])) (cons_eq (lendC_whole rfl (by simp [pairs_len, seqP_len])) rfl)))) (cons_eq rfl rfl))
            rintro r S ⟨rfl, rfl⟩
            refine xas ?_
            refine EOps_nil ?_
            refine E_seq ?_
            refine E_seq ?_
            refine E_region' (L := [0, 1]) rfl ?_
            refine xmv ?_
            refine x_pure rfl rfl rfl (L_bin rfl rfl rfl rfl) ?_
            refine EOps_nil ?_
            refine E_cond rfl (fun hc119 => ?_) (fun hc119 => ?_)
            ·first | (simp at hc119; done) | (simp at hc119; omega)
            ·refine E_skip ?_
             refine E_seq ?_
             refine e_tidy_A189_0 [0, 1, 2, 4, 6, 7, 8, 9, 10, 11, 12, 13, 14, 15, 16, 17, 18, 24, 29, 69, 74, 79, 105, 119] ?_
             refine E_region' (L := [0, 1, 2, 3]) rfl ?_
             refine xmv ?_
             refine xmv ?_
             refine x_call rfl rfl rfl rfl rfl ca_19 (c_laws_heldIntSS (1 + c.vals.length + c.rows.length + 2 * c.piv.length) l hle1 (by omega)) ?_ (ha := by exact cons_eq (lend_whole rfl (by simp [nest_len, markN_len])) (cons_eq rfl rfl))
             rintro r S ⟨rfl, rfl⟩
             refine xas ?_
             refine EOps_nil ?_
             refine E_seq ?_
             refine E_seq ?_
             refine E_region' (L := [0, 1]) rfl ?_
             refine xmv ?_
             refine x_pure rfl rfl rfl (L_bin rfl rfl rfl rfl) ?_
             refine EOps_nil ?_
             refine E_cond rfl (fun hc124 => ?_) (fun hc124 => ?_)
             ·first | (simp at hc124; done) | (simp at hc124; omega)
             ·refine E_skip ?_
              refine E_seq ?_
              refine e_tidy_A189_0 [0, 1, 2, 4, 6, 7, 8, 9, 10, 11, 12, 13, 14, 15, 16, 17, 18, 24, 29, 69, 74, 79, 105, 119, 124] ?_
              refine E_region' (L := [0, 1, 2, 3]) rfl ?_
              refine xmv ?_
              refine xmv ?_
              refine x_call rfl rfl rfl rfl rfl ca_20 (c_laws_heldIntS (n.length) (1 + c.vals.length + c.rows.length + 2 * c.piv.length + totL l) hle2 (by omega)) ?_ (ha := by exact cons_eq (lend_whole rfl (by simp [ints_len, seqF_len])) (cons_eq rfl rfl))
              rintro r S ⟨rfl, rfl⟩
              refine xas ?_
              refine EOps_nil ?_
              refine E_seq ?_
              refine E_seq ?_
              refine E_region' (L := [0, 1]) rfl ?_
              refine xmv ?_
              refine x_pure rfl rfl rfl (L_bin rfl rfl rfl rfl) ?_
              refine EOps_nil ?_
              refine E_cond rfl (fun hc129 => ?_) (fun hc129 => ?_)
              ·first | (simp at hc129; done) | (simp at hc129; omega)
              ·refine E_skip ?_
               refine E_seq ?_
               refine E_seq ?_
               refine E_region' (L := [0, 1, 2]) rfl ?_
               refine xmv ?_
               refine xmv ?_
               refine x_pure rfl rfl rfl (L_bin rfl rfl rfl rfl) ?_
               refine EOps_nil ?_
               refine E_cond rfl (fun hc132 => ?_) (fun hc132 => ?_)
               ·first | (simp at hc132; done) | (simp at hc132; omega)
               ·refine E_skip ?_
                refine E_seq ?_
                refine e_tidy_A189_0 [0, 1, 2, 4, 6, 7, 8, 9, 10, 11, 12, 13, 14, 15, 16, 17, 18, 24, 29, 69, 74, 79, 105, 119, 124, 129, 132] ?_
                refine E_drawT mixed ?_
                refine t_old 0 rfl rfl rfl (L_move rfl) ?_
                refine t_light 2 rfl rfl rfl (L_load rfl (by first | exact d_bp ty_24 | exact ld_rp ty_24 rfl | exact d_ep ty_24)) ?_
                refine t_old 4 rfl rfl rfl (L_move rfl) ?_
                refine t_main 3 [(⟨none, 11, 19, 0⟩, _)] [(1, false), (3, false), (5, false), (6, false), (7, true), (8, true), (9, true), (10, true)] [135, 137, 139, 140, 133, 141, 142, 143] [(19, .any), (135, .any), (137, .any), (139, .any), (140, .any), (133, .any), (141, .any), (142, .any), (143, .any)] [1, 3, 5, 6, 7, 8, 9, 10, 11] ⟨.one rfl rfl rfl (by decide) (F_alloc rfl za_29), trivial⟩ ?_
                refine m_call rfl rfl rfl rfl rfl ca_6 (c_laws_toIntS xs ha0) ?_
                rintro r S ⟨rfl, rfl⟩
                refine m_call rfl rfl rfl rfl rfl ca_7 (c_laws_toSettings s) ?_
                rintro r S ⟨rfl, rfl⟩
                refine m_call rfl rfl rfl rfl rfl ca_8 (c_laws_toRangeS rs ha2) ?_
                rintro r S ⟨rfl, rfl⟩
                refine m_call rfl rfl rfl rfl rfl ca_9 (hg) ?_
                rintro r S ⟨rfl, rfl⟩
                refine m_pure rfl rfl rfl (L_move rfl) ?_
                refine m_pure rfl rfl rfl (L_extract rfl rfl) ?_
                refine m_pure rfl rfl rfl (L_extract rfl rfl) ?_
                refine m_pure rfl rfl rfl (L_extract rfl rfl) ?_
                refine m_done ?_
                refine fk_cons ?_
                rintro r S ⟨rfl, rfl⟩
                refine fk_nil ?_
                refine t_turn 12 rfl rfl (EOp_store rfl rfl rfl (by first | exact s_bp ty_29 | exact s_ep ty_29) ?_)
                refine t_old 13 rfl rfl rfl (L_assign rfl) ?_
                refine t_old 14 rfl rfl rfl (L_assign rfl) ?_
                refine T_done (by kernel_rfl) ?_
                refine E_seq ?_
                refine E_seq ?_
                refine e_tidy_A189_0 [0, 1, 2, 4, 6, 7, 8, 9, 10, 11, 12, 13, 14, 15, 16, 17, 18, 19, 20, 21, 24, 29, 69, 74, 79, 105, 119, 124, 129, 132] ?_
                refine E_region' (L := [0, 1, 2, 3, 4, 5, 6, 7, 8, 9, 10, 11, 12, 13, 14, 15]) rfl ?_
                refine x_light rfl rfl rfl (L_load rfl (by first | exact d_bp ty_29 | exact ld_rp ty_29 rfl | exact d_ep ty_29)) ?_
                refine x_light rfl rfl rfl (L_load rfl (by first | exact d_bp ty_29 | exact ld_rp ty_29 rfl | exact d_ep ty_29)) ?_
                refine x_call rfl rfl rfl rfl rfl ca_10 (c_laws_eqCracker c c) ?_
                rintro r S ⟨rfl, rfl⟩
                refine x_pure rfl rfl rfl (L_not rfl rfl) ?_
                refine xmv ?_
                refine EOps_split 148 (b := _) rfl (fun hg148 => ?_) (fun hg148 => ?_)
                ·first | (simp at hg148; done) | (simp at hg148; omega)
                ·refine xmv ?_
                 refine xmv ?_
                 refine x_call rfl rfl rfl rfl rfl ca_11 (c_laws_eqIntSS l l) ?_
                 rintro r S ⟨rfl, rfl⟩
                 refine x_pure rfl rfl rfl (L_not rfl rfl) ?_
                 refine x_pure rfl rfl rfl (L_pick rfl rfl) ?_
                 refine xmv ?_
                 refine EOps_split 154 (b := _) rfl (fun hg154 => ?_) (fun hg154 => ?_)
                 ·first | (simp at hg154; done) | (simp at hg154; omega)
                 ·refine xmv ?_
                  refine xmv ?_
                  refine x_call rfl rfl rfl rfl rfl ca_12 (c_laws_eqIntS n n) ?_
                  rintro r S ⟨rfl, rfl⟩
                  refine x_pure rfl rfl rfl (L_not rfl rfl) ?_
                  refine x_pure rfl rfl rfl (L_pick rfl rfl) ?_
                  refine EOps_nil ?_
                  refine E_cond rfl (fun hc159 => ?_) (fun hc159 => ?_)
                  ·first | (simp at hc159; done) | (simp at hc159; omega)
                  ·refine E_skip ?_
                   refine E_seq ?_
                   refine E_region' (L := [0]) rfl ?_
                   refine xas ?_
                   refine EOps_nil ?_
                   refine E_seq ?_
                   refine e_tidy_A189_0 [0, 1, 2, 4, 6, 7, 8, 9, 10, 11, 12, 13, 14, 15, 16, 17, 18, 19, 20, 21, 24, 29, 69, 74, 79, 105, 119, 124, 129, 132, 159] ?_
                   refine E_region' (L := [0, 1, 2, 3]) rfl ?_
                   refine x_light rfl rfl rfl (L_load rfl (by first | exact d_bp ty_29 | exact ld_rp ty_29 rfl | exact d_ep ty_29)) ?_
                   refine xmv ?_
                   refine x_call rfl rfl rfl rfl rfl ca_18 (c_laws_heldCracker (1) (c.vals.length) (c.rows.length) (c.piv.length) hle0 (by omega)) ?_ (ha := by exact cons_eq (agg_eq (cons_eq (lendC_whole rfl (by simp [ints_len, seqF_len])) (cons_eq (lendC_whole rfl (by simp [ints_len, seqF_len])) (cons_eq (lendC_whole rfl (by simp [pairs_len, seqP_len])) rfl)))) (cons_eq rfl rfl))
                   rintro r S ⟨rfl, rfl⟩
                   refine xas ?_
                   refine EOps_nil ?_
                   refine E_seq ?_
                   refine E_seq ?_
                   refine E_region' (L := [0, 1]) rfl ?_
                   refine xmv ?_
                   refine x_pure rfl rfl rfl (L_bin rfl rfl rfl rfl) ?_
                   refine EOps_nil ?_
                   refine E_cond rfl (fun hc164 => ?_) (fun hc164 => ?_)
                   ·first | (simp at hc164; done) | (simp at hc164; omega)
                   ·refine E_skip ?_
                    refine E_seq ?_
                    refine e_tidy_A189_0 [0, 1, 2, 4, 6, 7, 8, 9, 10, 11, 12, 13, 14, 15, 16, 17, 18, 19, 20, 21, 24, 29, 69, 74, 79, 105, 119, 124, 129, 132, 159, 164] ?_
                    refine E_region' (L := [0, 1, 2, 3]) rfl ?_
                    refine xmv ?_
                    refine xmv ?_
                    refine x_call rfl rfl rfl rfl rfl ca_19 (c_laws_heldIntSS (1 + c.vals.length + c.rows.length + 2 * c.piv.length) l hle1 (by omega)) ?_ (ha := by exact cons_eq (lend_whole rfl (by simp [nest_len, markN_len])) (cons_eq rfl rfl))
                    rintro r S ⟨rfl, rfl⟩
                    refine xas ?_
                    refine EOps_nil ?_
                    refine E_seq ?_
                    refine E_seq ?_
                    refine E_region' (L := [0, 1]) rfl ?_
                    refine xmv ?_
                    refine x_pure rfl rfl rfl (L_bin rfl rfl rfl rfl) ?_
                    refine EOps_nil ?_
                    refine E_cond rfl (fun hc169 => ?_) (fun hc169 => ?_)
                    ·first | (simp at hc169; done) | (simp at hc169; omega)
                    ·refine E_skip ?_
                     refine E_seq ?_
                     refine e_tidy_A189_0 [0, 1, 2, 4, 6, 7, 8, 9, 10, 11, 12, 13, 14, 15, 16, 17, 18, 19, 20, 21, 24, 29, 69, 74, 79, 105, 119, 124, 129, 132, 159, 164, 169] ?_
                     refine E_region' (L := [0, 1, 2, 3]) rfl ?_
                     refine xmv ?_
                     refine xmv ?_
                     refine x_call rfl rfl rfl rfl rfl ca_20 (c_laws_heldIntS (n.length) (1 + c.vals.length + c.rows.length + 2 * c.piv.length + totL l) hle2 (by omega)) ?_ (ha := by exact cons_eq (lend_whole rfl (by simp [ints_len, seqF_len])) (cons_eq rfl rfl))
                     rintro r S ⟨rfl, rfl⟩
                     refine xas ?_
                     refine EOps_nil ?_
                     refine E_seq ?_
                     refine E_seq ?_
                     refine E_region' (L := [0, 1]) rfl ?_
                     refine xmv ?_
                     refine x_pure rfl rfl rfl (L_bin rfl rfl rfl rfl) ?_
                     refine EOps_nil ?_
                     refine E_cond rfl (fun hc174 => ?_) (fun hc174 => ?_)
                     ·first | (simp at hc174; done) | (simp at hc174; omega)
                     ·refine E_skip ?_
                      refine E_seq ?_
                      refine E_seq ?_
                      refine E_region' (L := [0, 1, 2]) rfl ?_
                      refine xmv ?_
                      refine xmv ?_
                      refine x_pure rfl rfl rfl (L_bin rfl rfl rfl rfl) ?_
                      refine EOps_nil ?_
                      refine E_cond rfl (fun hc177 => ?_) (fun hc177 => ?_)
                      ·first | (simp at hc177; done) | (simp at hc177; omega)
                      ·refine E_skip ?_
                       refine E_seq ?_
                       refine E_region' (L := [0]) rfl ?_
                       refine xas ?_
                       refine EOps_nil ?_
                       refine E_ret ?_
                       refine ⟨_, [], rfl, rfl, ?_, rfl⟩
                       simp [AV.ren, ren_sc, ren_ro, AC.ren, AC.ren.rens, ix, rv1, E.get, E.ev, E.cv, E.fill', E.fill, E.slotsOf, *]

end Go.Proofs.YthnadkagchbhbaaGreat.E
