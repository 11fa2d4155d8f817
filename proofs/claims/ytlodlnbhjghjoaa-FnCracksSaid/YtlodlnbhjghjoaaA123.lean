/- Walks through functions, by program out of the session's annotations. -/
import Derived.Test.YtlodlnbhjghjoaaA121
import Derived.Test.YtlodlnbhjghjoaaA122
import Derived.Test.YtlodlnbhjghjoaaA40
namespace Go.Proofs.Ytlodlnbhjghjoaa.E
open Go Go.RowKit Go.Proofs
set_option linter.unusedVariables false
set_option linter.unusedSimpArgs false

theorem e_tidy_A123_0 {P : Program} {N : Nat} {s : Slots} {R : List Res} {Q : Exit → Slots → List Res → Prop} {c : Code} (keep : List Nat) {base : Slots} {R' : List Res} (h : ECode P N c base R' Q) (hb : keepOf s keep = base := by simp only [E.keepOf, E.get, E.ev, E.cv, E.fill', E.fill, E.slotsOf, Res.sh, AC.sh, AC.sh.shs, AV.sh, E.splice, List.map_cons, List.map_nil, List.cons_append, List.nil_append, List.append_nil, List.length_cons, List.length_nil, List.take_zero, List.drop_zero, List.take_succ_cons, List.drop_succ_cons, List.drop_nil, List.take_nil, List.set_cons_zero, List.set_cons_succ, Nat.zero_add, Nat.add_zero, Nat.reduceAdd, Nat.reduceSub, reduceIte, Nat.reduceEqDiff, E.back, E.backR, E.ix, Res.un, AC.un, AC.un.uns, AV.un, E.un, Option.map_some, Option.map_none, Option.getD_some, List.getElem?_cons_zero, List.getElem?_cons_succ, List.getElem?_nil, crkR, crkO]; rfl) (hR : R = R' := by (try simp only [E.keepOf, E.get, E.ev, E.cv, E.fill', E.fill, E.slotsOf, Res.sh, AC.sh, AC.sh.shs, AV.sh, E.splice, List.map_cons, List.map_nil, List.cons_append, List.nil_append, List.append_nil, List.length_cons, List.length_nil, List.take_zero, List.drop_zero, List.take_succ_cons, List.drop_succ_cons, List.drop_nil, List.take_nil, List.set_cons_zero, List.set_cons_succ, Nat.zero_add, Nat.add_zero, Nat.reduceAdd, Nat.reduceSub, reduceIte, Nat.reduceEqDiff, E.back, E.backR, E.ix, Res.un, AC.un, AC.un.uns, AV.un, E.un, Option.map_some, Option.map_none, Option.getD_some, List.getElem?_cons_zero, List.getElem?_cons_succ, List.getElem?_nil, crkR, crkO]); rfl) : ECode P N c s R Q := E_tidy keep hb hR h
theorem e_for_A123_1 {P : Program} {N : Nat} {s : Slots} {R : List Res} {Q : Exit → Slots → List Res → Prop} {α : Type} {c : Code} (keep : List Nat) (mods : α → Slots) (Rf : α → List Res) (I : α → Prop) (m : α → Nat) (x0 : α) {base : Slots} (h0 : I x0) (hR : R = Rf x0) (h1 : chk s (mods x0))
    (round : ∀ x, I x → ECode P N c (mods x ++ base) (Rf x) (EThen (fun s' R' => ∃ y, m y < m x ∧ I y ∧ R' = Rf y ∧ chk s' (mods y) ∧ chk s' base) Q)) (hb : keepOf s keep = base := by simp only [E.keepOf, E.get, E.ev, E.cv, E.fill', E.fill, E.slotsOf, Res.sh, AC.sh, AC.sh.shs, AV.sh, E.splice, List.map_cons, List.map_nil, List.cons_append, List.nil_append, List.append_nil, List.length_cons, List.length_nil, List.take_zero, List.drop_zero, List.take_succ_cons, List.drop_succ_cons, List.drop_nil, List.take_nil, List.set_cons_zero, List.set_cons_succ, Nat.zero_add, Nat.add_zero, Nat.reduceAdd, Nat.reduceSub, reduceIte, Nat.reduceEqDiff, E.back, E.backR, E.ix, Res.un, AC.un, AC.un.uns, AV.un, E.un, Option.map_some, Option.map_none, Option.getD_some, List.getElem?_cons_zero, List.getElem?_cons_succ, List.getElem?_nil, crkR, crkO]; rfl) : ECode P N (.loop c) s R Q := E_for keep mods Rf I m x0 hb h0 hR h1 round

set_option maxRecDepth 20000 in
set_option maxHeartbeats 2000000 in
theorem c_impl_PieceOf (c : Crk) (v : Int) (hb : c.piv.length ≤ 1048576 ∧ c.vals.length ≤ 1048576) : EFn Try.prog 23 [.agg (crkC c), .c (.sc (.int .i64 v))] [] (fun r S => r = pieceT c v ∧ S = []) := by
  refine E_fn Try.func23 rfl (Nat.le_of_ble_eq_true rfl) ?_
  refine E_seq ?_
  refine E_region' (L := [0, 1, 2]) rfl ?_
  refine x_box rfl rfl rfl rfl rfl ?_
  refine x_pure rfl rfl rfl (L_assign rfl) ?_
  refine x_pure rfl rfl rfl (L_assign rfl) ?_
  refine EOps_nil ?_
  refine E_seq ?_
  refine E_seq ?_
  refine e_tidy [0, 1, 2, 4, 5] ?_
  refine E_region' (L := [0, 1, 2, 3, 4, 5, 6, 7]) rfl ?_
  refine x_light rfl rfl rfl (L_load rfl (by first | exact d_bp ty_35 | exact ld_rp ty_35 rfl | exact d_ep ty_35)) ?_
  refine x_call rfl rfl rfl rfl rfl ca_26 (c_impl_IsCracker c) ?_
  rintro r S ⟨rfl, rfl⟩
  refine x_pure rfl rfl rfl (L_not rfl rfl) ?_
  refine x_pure rfl rfl rfl (L_move rfl) ?_
  refine EOps_split 9 (b := _) rfl (fun hg9 => ?_) (fun hg9 => ?_)
  · refine x_skip rfl rfl rfl ?_
    refine x_skip rfl rfl rfl ?_
    refine x_skip rfl rfl rfl ?_
    refine x_pure rfl rfl rfl (L_pick rfl rfl) ?_
    refine EOps_nil ?_
    refine E_cond rfl (fun hc13 => ?_) (fun hc13 => ?_)
    · have hno : ¬ (isCrk c = true ∧ bnd v = true) := by
        rintro ⟨h1, h2⟩
        first
          | (simp [h1] at hg9; done)
          | (simp [h1] at hg9; simp [h2] at hc13; done)
          | (simp [bnd] at h2; simp_all)
      refine E_seq ?_
      refine E_region' (L := [0, 1]) rfl ?_
      refine x_pure rfl rfl rfl (L_assign rfl) ?_
      refine x_pure rfl rfl rfl (L_assign rfl) ?_
      refine EOps_nil ?_
      refine E_ret ?_
      refine ⟨_, [], rfl, rfl, ?_, rfl⟩
      rw [pieceT, if_neg hno]; rfl
    · exact Bool.noConfusion (hc13 : true = false)
  · refine x_pure rfl rfl rfl (L_move rfl) ?_
    refine x_call rfl rfl rfl rfl rfl ca_65 (c_impl_bound v) ?_
    rintro r S ⟨rfl, rfl⟩
    refine x_pure rfl rfl rfl (L_not rfl rfl) ?_
    refine x_pure rfl rfl rfl (L_pick rfl rfl) ?_
    refine EOps_nil ?_
    refine E_cond rfl (fun hc13 => ?_) (fun hc13 => ?_)
    · have hno : ¬ (isCrk c = true ∧ bnd v = true) := by
        rintro ⟨h1, h2⟩
        first
          | (simp [h1] at hg9; done)
          | (simp [h1] at hg9; simp [h2] at hc13; done)
          | (simp [bnd] at h2; simp_all)
      refine E_seq ?_
      refine E_region' (L := [0, 1]) rfl ?_
      refine x_pure rfl rfl rfl (L_assign rfl) ?_
      refine x_pure rfl rfl rfl (L_assign rfl) ?_
      refine EOps_nil ?_
      refine E_ret ?_
      refine ⟨_, [], rfl, rfl, ?_, rfl⟩
      first
        | (rw [pieceT, if_neg hno]; rfl)
        | (rw [pieceT, if_pos hyes, pcT]; rfl)
    · have hyes : isCrk c = true ∧ bnd v = true := by
        have h1 : isCrk c = true := by simpa using hg9
        have h2 : bnd v = true := by simpa [bnd] using hc13
        exact ⟨h1, h2⟩
      refine E_skip ?_
      refine E_seq ?_
      refine e_tidy [0, 1, 2, 4, 5, 13] ?_
      refine E_region' (L := [0, 1, 2, 3, 4, 5, 6]) rfl ?_
      refine x_light rfl rfl rfl (L_load rfl (by first | exact d_bp ty_35 | exact ld_rp ty_35 rfl | exact d_ep ty_35)) ?_
      refine x_pure rfl rfl rfl (L_move rfl) ?_
      refine x_call rfl rfl rfl rfl rfl ca_76 (c_impl_piece c v hb) ?_
      rintro r S ⟨rfl, rfl⟩
      rw [pcT]
      refine x_pure rfl rfl rfl (L_extract rfl rfl) ?_
      refine x_pure rfl rfl rfl (L_extract rfl rfl) ?_
      refine x_pure rfl rfl rfl (L_assign rfl) ?_
      refine x_pure rfl rfl rfl (L_assign rfl) ?_
      refine EOps_nil ?_
      refine E_ret ?_
      refine ⟨_, [], rfl, rfl, ?_, rfl⟩
      rw [pieceT, if_pos hyes, pcT]; rfl

set_option maxRecDepth 20000 in
set_option maxHeartbeats 8000000 in
theorem c_laws_FnCracks (l : List Int) (hb0 : ∀ x ∈ l, 0 ≤ x ∧ x ≤ 255) : EFn Try.prog 4 [.c (.ro (bytes l))] [] (fun r S => r = .c (.sc (.bool true)) ∧ S = []) := by
  refine E_fn Try.func4 rfl (Nat.le_of_ble_eq_true rfl) ?_
  refine E_seq ?_
  refine E_region' (L := [0]) rfl ?_
  refine x_pure rfl rfl rfl (L_assign rfl) ?_
  refine EOps_nil ?_
  refine E_seq ?_
  refine E_seq ?_
  refine e_tidy_A123_0 [0, 2] ?_
  refine E_region' (L := [0, 1]) rfl ?_
  refine x_pure rfl rfl rfl (L_move rfl) ?_
  refine x_call rfl rfl rfl rfl rfl ca_18 (c_laws_big l) ?_
  rintro r S ⟨rfl, rfl⟩
  refine EOps_nil ?_
  refine E_cond rfl (fun hc22 => ?_) (fun hc22 => ?_)
  · refine E_seq ?_
    refine E_region' (L := [0]) rfl ?_
    refine x_pure rfl rfl rfl (L_assign rfl) ?_
    refine EOps_nil ?_
    refine E_ret ?_
    exact ⟨_, [], rfl, rfl, rfl, rfl⟩
  · have hb : byL l := ⟨hb0, by simp at hc22; omega⟩
    refine E_skip ?_
    refine E_seq ?_
    refine e_tidy_A123_0 [0, 2, 22] ?_
    refine E_region' (L := [0, 1, 2, 3, 4, 5, 6, 7]) rfl ?_
    refine x_pure rfl rfl rfl (L_move rfl) ?_
    refine x_call rfl rfl rfl rfl rfl ca_19 (c_spec_DrawCrackAt l hb) ?_ (hq := by rintro r S ⟨_, _, ⟨rfl, rfl⟩, _, _, _⟩; exact ⟨rfl, rfl⟩)
    rintro r S ⟨c, v, ⟨rfl, rfl⟩, hcv, hcr, hcp⟩
    have hsm := crkAtC_small c v
    refine x_pure rfl rfl rfl (L_move rfl) ?_
    refine x_pure rfl rfl rfl (L_extract rfl rfl) ?_
    refine x_pure rfl rfl rfl (L_extract rfl rfl) ?_
    refine x_alloc rfl rfl rfl rfl za_35 ?_
    refine EOps_go rfl rfl (EOp_store rfl rfl rfl (by first | exact s_bp ty_35 | exact s_ep ty_35) ?_)
    refine x_pure rfl rfl rfl (L_assign rfl) ?_
    refine EOps_nil ?_
    refine E_seq ?_
    refine e_tidy_A123_0 [0, 2, 3, 4, 22] ?_
    refine E_region' (L := [0, 1, 2, 3, 4, 5, 6, 7, 8, 9, 10]) rfl ?_
    refine x_light rfl rfl rfl (L_load rfl (by first | exact d_bp ty_35 | exact ld_rp ty_35 rfl | exact d_ep ty_35)) ?_
    refine x_pure rfl rfl rfl (L_move rfl) ?_
    refine x_call rfl rfl rfl rfl rfl ca_20 (c_impl_CrackAt c v (by omega)) ?_
    rintro r S ⟨rfl, rfl⟩
    refine x_pure rfl rfl rfl (L_move rfl) ?_
    refine x_pure rfl rfl rfl (L_extract rfl rfl) ?_
    refine x_pure rfl rfl rfl (L_extract rfl rfl) ?_
    refine x_pure rfl rfl rfl (L_extract rfl rfl) ?_
    refine x_alloc rfl rfl rfl rfl za_35 ?_
    refine EOps_go rfl rfl (EOp_store rfl rfl rfl (by first | exact s_bp ty_35 | exact s_ep ty_35) ?_)
    refine x_pure rfl rfl rfl (L_assign rfl) ?_
    refine x_pure rfl rfl rfl (L_assign rfl) ?_
    refine EOps_nil ?_
    refine E_seq ?_
    refine e_tidy_A123_0 [0, 2, 3, 4, 5, 6, 7, 22] ?_
    refine E_region' (L := [0, 1, 2, 3, 4, 5, 6, 7, 8, 9, 10]) rfl ?_
    refine x_light rfl rfl rfl (L_load rfl (by first | exact d_bp ty_35 | exact ld_rp ty_35 rfl | exact d_ep ty_35)) ?_
    refine x_pure rfl rfl rfl (L_move rfl) ?_
    refine x_call rfl rfl rfl rfl rfl ca_21 (c_spec_CrackAt c v (by omega)) ?_
    rintro r S ⟨rfl, rfl⟩
    refine x_pure rfl rfl rfl (L_move rfl) ?_
    refine x_pure rfl rfl rfl (L_extract rfl rfl) ?_
    refine x_pure rfl rfl rfl (L_extract rfl rfl) ?_
    refine x_pure rfl rfl rfl (L_extract rfl rfl) ?_
    refine x_alloc rfl rfl rfl rfl za_35 ?_
    refine EOps_go rfl rfl (EOp_store rfl rfl rfl (by first | exact s_bp ty_35 | exact s_ep ty_35) ?_)
    refine x_pure rfl rfl rfl (L_assign rfl) ?_
    refine x_pure rfl rfl rfl (L_assign rfl) ?_
    refine EOps_nil ?_
    refine E_seq ?_
    refine E_seq ?_
    refine e_tidy_A123_0 [0, 2, 3, 4, 5, 6, 7, 8, 9, 10, 22] ?_
    refine E_region' (L := [0, 1, 2, 3, 4, 5, 6, 7, 8, 9, 10, 11, 12, 13, 14, 15]) rfl ?_
    refine x_pure rfl rfl rfl (L_move rfl) ?_
    refine x_pure rfl rfl rfl (L_move rfl) ?_
    refine x_pure rfl rfl rfl (L_binB rfl bo_4 rfl rfl rfl) ?_
    refine x_pure rfl rfl rfl (L_move rfl) ?_
    refine EOps_split 45 (b := _) rfl (fun hg45 => ?_) (fun hg45 => ?_)
    · simp at hg45
    · refine x_light rfl rfl rfl (L_load rfl (by first | exact d_bp ty_35 | exact ld_rp ty_35 rfl | exact d_ep ty_35)) ?_
      refine x_light rfl rfl rfl (L_load rfl (by first | exact d_bp ty_35 | exact ld_rp ty_35 rfl | exact d_ep ty_35)) ?_
      refine x_call rfl rfl rfl rfl rfl ca_22 (c_spec_EqualCrackers (crkAtC c v) (crkAtC c v)) ?_
      rintro r S ⟨rfl, rfl⟩
      refine x_pure rfl rfl rfl (L_not rfl rfl) ?_
      refine x_pure rfl rfl rfl (L_pick rfl rfl) ?_
      refine x_pure rfl rfl rfl (L_move rfl) ?_
      refine EOps_split 51 (b := _) rfl (fun hg51 => ?_) (fun hg51 => ?_)
      · simp at hg51
      · refine x_pure rfl rfl rfl (L_move rfl) ?_
        refine x_pure rfl rfl rfl (l_len rfl sl_54) ?_
        refine x_pure rfl rfl rfl (L_move rfl) ?_
        refine x_pure rfl rfl rfl (l_len rfl sl_54) ?_
        refine x_pure rfl rfl rfl (L_bin rfl rfl rfl rfl) ?_
        refine x_pure rfl rfl rfl (L_pick rfl rfl) ?_
        refine EOps_nil ?_
        refine E_cond rfl (fun hc57 => ?_) (fun hc57 => ?_)
        · simp at hc57
        · refine E_skip ?_
          refine E_seq ?_
          refine E_seq ?_
          refine E_region' (L := [0, 1]) rfl ?_
          refine x_pure rfl rfl rfl (L_move rfl) ?_
          refine x_pure rfl rfl rfl (L_not rfl rfl) ?_
          refine EOps_nil ?_
          refine E_cond rfl (fun hc59 => ?_) (fun hc59 => ?_)
          · have hk : crkAtK c v = false := by simpa using hc59
            have e1 : crkAtC c v = c := by rw [crkAtC, hk]; rfl
            have e2 : crkAtS c v = [] := by rw [crkAtS, hk]; rfl
            rw [e1, e2]
            refine E_seq ?_
            refine e_tidy_A123_0 [0, 2, 3, 4, 5, 6, 7, 8, 9, 10, 22, 57, 59] ?_
            refine E_region' (L := [0, 1, 2, 3, 4, 5, 6, 7, 8]) rfl ?_
            refine x_light rfl rfl rfl (L_load rfl (by first | exact d_bp ty_35 | exact ld_rp ty_35 rfl | exact d_ep ty_35)) ?_
            refine x_light rfl rfl rfl (L_load rfl (by first | exact d_bp ty_35 | exact ld_rp ty_35 rfl | exact d_ep ty_35)) ?_
            refine x_call rfl rfl rfl rfl rfl ca_22 (c_spec_EqualCrackers c c) ?_
            rintro r S ⟨rfl, rfl⟩
            refine x_pure rfl rfl rfl (L_move rfl) ?_
            refine EOps_split 63 (b := _) rfl (fun hg63 => ?_) (fun hg63 => ?_)
            · refine x_pure rfl rfl rfl (L_move rfl) ?_
              refine x_pure rfl rfl rfl (l_len rfl sl_54) ?_
              refine x_pure rfl rfl rfl (L_bin rfl rfl rfl rfl) ?_
              refine x_pure rfl rfl rfl (L_pick rfl rfl) ?_
              refine x_pure rfl rfl rfl (L_assign rfl) ?_
              refine EOps_nil ?_
              refine E_ret ?_
              exact ⟨_, [], rfl, rfl, by simp [AV.ren, ren_sc, ren_ro, AC.ren, AC.ren.rens, ix, rv1, E.get, E.ev, E.cv, E.fill', E.fill, E.slotsOf], rfl⟩
            · simp at hg63
          · have hk : crkAtK c v = true := by simpa using hc59
            have hcb : isCrk c = true ∧ bnd v = true := by simpa [crkAtK] using hk
            obtain ⟨hc, hv⟩ := hcb
            have e1 : crkAtC c v = (crackC c v).1 := by rw [crkAtC, if_pos hk]
            have hx := (crackC_ok hc hv).1
            have hpc : pieceT c v = .tup [(false, [.sc (.int .i64 (pcFrom c.piv v))]), (false, [.sc (.int .i64 (pcTo c.piv c.vals.length v))])] := by rw [pieceT, if_pos ⟨hc, hv⟩, pcT]
            have hout := crackC_out hc hv
            have hfp := fpAt_crack hc hv
            have hpv : isPv (crackC c v).1.piv v = true := crackC_pv
            have hpl := crackC_piv (c := c) (v := v)
            have hpm := crack_perm hc hv
            have hpb := pc_bounds hc v
            rw [e1] at hsm ⊢
            generalize (crackC c v).1 = X at *
            have hxl := crk_lens hx
            have hcl := crk_lens hc
            have hk2 : crkAtK X v = true := by simp [crkAtK, hx, hv]
            have e3 : crkAtC X v = X := by rw [crkAtC, if_pos hk2, crackC, if_pos hpv]
            have e4 : crkAtS X v = [] := by rw [crkAtS, if_pos hk2, crackC, if_pos hpv]
            have hprl : prL X = prL c := prL_of hxl.2.1 hcl.2.1 hpm
            refine E_skip ?_
            refine E_seq ?_
            refine e_tidy_A123_0 [0, 2, 3, 4, 5, 6, 7, 8, 9, 10, 22, 57, 59] ?_
            refine E_region' (L := [0, 1, 2, 3, 4, 5, 6, 7]) rfl ?_
            refine x_light rfl rfl rfl (L_load rfl (by first | exact d_bp ty_35 | exact ld_rp ty_35 rfl | exact d_ep ty_35)) ?_
            refine x_pure rfl rfl rfl (L_move rfl) ?_
            refine x_call rfl rfl rfl rfl rfl ca_23 (c_impl_PieceOf c v (by omega)) ?_ (hq := by rintro r S ⟨rfl, rfl⟩; rw [hpc]; exact ⟨rfl, rfl⟩)
            rintro r S ⟨rfl, rfl⟩
            rw [hpc]
            refine x_pure rfl rfl rfl (L_move rfl) ?_
            refine x_pure rfl rfl rfl (L_extract rfl rfl) ?_
            refine x_pure rfl rfl rfl (L_extract rfl rfl) ?_
            refine x_pure rfl rfl rfl (L_assign rfl) ?_
            refine x_pure rfl rfl rfl (L_assign rfl) ?_
            refine EOps_nil ?_
            refine E_seq ?_
            refine E_seq ?_
            refine E_region' (L := [0]) rfl ?_
            refine x_pure rfl rfl rfl (L_assign rfl) ?_
            refine EOps_nil ?_
            refine E_block ?_
            refine e_for_A123_1 (α := Nat) [0, 3, 4, 5, 6, 7, 8, 9, 10, 11, 12, 22, 57, 59] (fun k => [(13, .c (.sc (.int .i64 ((k : Int))))), (2, .any)]) (fun _ => _) (fun k => k ≤ c.vals.length) (fun k => c.vals.length - k) (0) ?_ (rfl) ⟨.inr rfl, .inl rfl, trivial⟩ ?_
            · simp
            rintro k hkn
            refine E_seq ?_
            refine E_seq ?_
            refine E_region' (L := [0, 1, 2, 3, 4]) rfl ?_
            refine x_pure rfl rfl rfl (L_move rfl) ?_
            refine x_pure rfl rfl rfl (l_field rfl fo_35_0) ?_
            refine x_light rfl rfl rfl (L_load rfl (by first | exact d_bp ty_22 | exact ld_rp ty_22 rfl | exact d_ep ty_22)) ?_
            refine x_pure rfl rfl rfl (l_len rfl sl_22) ?_
            refine x_pure rfl rfl rfl (L_bin rfl rfl rfl rfl) ?_
            refine EOps_nil ?_
            refine E_cond rfl (fun hc78 => ?_) (fun hc78 => ?_)
            · have hk1 : k < c.vals.length := by simp [ints_len] at hc78; omega
              obtain ⟨cv, hcv1⟩ := at_lt (l := c.vals) hk1
              obtain ⟨xv, hxv1⟩ := at_lt (l := X.vals) (k := k) (by omega)
              obtain ⟨cr, hcr1⟩ := at_lt (l := c.rows) (k := k) (by omega)
              obtain ⟨xr, hxr1⟩ := at_lt (l := X.rows) (k := k) (by omega)
              have hok := hout k
              rw [getD_of hcv1, getD_of hxv1, getD_of hcr1, getD_of hxr1] at hok
              refine E_skip ?_
              refine E_seq ?_
              refine E_block ?_
              refine E_seq ?_
              refine E_drawT mixed ?_
              refine t_old 0 rfl rfl rfl (L_move rfl) ?_
              refine t_old 1 rfl rfl rfl (L_move rfl) ?_
              refine t_old 2 rfl rfl rfl (L_bin rfl rfl rfl rfl) ?_
              refine t_old 3 rfl rfl rfl (L_move rfl) ?_
              refine T_split 84 (b := _) rfl rfl (fun hg84 => ?_) (fun hg84 => ?_)
              · refine t_skip 4 rfl rfl rfl ?_
                refine t_skip 5 rfl rfl rfl ?_
                refine t_skip 6 rfl rfl rfl ?_
                refine t_old 7 rfl rfl rfl (L_pick rfl rfl) ?_
                refine t_old 8 rfl rfl rfl (L_move rfl) ?_
                refine t_old 9 rfl rfl rfl (l_field rfl fo_35_0) ?_
                refine t_light 10 rfl rfl rfl (L_load rfl (by first | exact d_bp ty_22 | exact ld_rp ty_22 rfl | exact d_ep ty_22)) ?_
                refine t_old 11 rfl rfl rfl (L_move rfl) ?_
                refine t_old 12 rfl rfl rfl (L_index rfl rfl (by first | exact i_ro sl_22 ty_3 | exact i_sl sl_22 ty_3)) ?_
                refine t_light 13 rfl rfl rfl (L_load rfl (by first | exact d_bp ty_3 | exact ld_rp ty_3 rfl | exact d_ep ty_3)) ?_
                refine t_old 14 rfl rfl rfl (l_field rfl fo_35_0) ?_
                refine t_light 15 rfl rfl rfl (L_load rfl (by first | exact d_bp ty_22 | exact ld_rp ty_22 rfl | exact d_ep ty_22)) ?_
                refine t_old 16 rfl rfl rfl (L_move rfl) ?_
                refine t_old 17 rfl rfl rfl (L_index rfl rfl (by first | exact i_ro sl_22 ty_3 | exact i_sl sl_22 ty_3)) ?_
                refine t_light 18 rfl rfl rfl (L_load rfl (by first | exact d_bp ty_3 | exact ld_rp ty_3 rfl | exact d_ep ty_3)) ?_
                refine t_old 19 rfl rfl rfl (L_bin rfl rfl rfl rfl) ?_
                refine t_old 20 rfl rfl rfl (L_move rfl) ?_
                refine T_split 101 (b := _) rfl rfl (fun hg101 => ?_) (fun hg101 => ?_)
                · exfalso; have h := hok (by first | (simp at hg84; omega) | (simp at hg84 hg89; omega)); simp [h.1] at hg101
                · refine t_old 21 rfl rfl rfl (l_field rfl fo_35_1) ?_
                  refine t_light 22 rfl rfl rfl (L_load rfl (by first | exact d_bp ty_22 | exact ld_rp ty_22 rfl | exact d_ep ty_22)) ?_
                  refine t_old 23 rfl rfl rfl (L_move rfl) ?_
                  refine t_old 24 rfl rfl rfl (L_index rfl rfl (by first | exact i_ro sl_22 ty_3 | exact i_sl sl_22 ty_3)) ?_
                  refine t_light 25 rfl rfl rfl (L_load rfl (by first | exact d_bp ty_3 | exact ld_rp ty_3 rfl | exact d_ep ty_3)) ?_
                  refine t_old 26 rfl rfl rfl (l_field rfl fo_35_1) ?_
                  refine t_light 27 rfl rfl rfl (L_load rfl (by first | exact d_bp ty_22 | exact ld_rp ty_22 rfl | exact d_ep ty_22)) ?_
                  refine t_old 28 rfl rfl rfl (L_move rfl) ?_
                  refine t_old 29 rfl rfl rfl (L_index rfl rfl (by first | exact i_ro sl_22 ty_3 | exact i_sl sl_22 ty_3)) ?_
                  refine t_light 30 rfl rfl rfl (L_load rfl (by first | exact d_bp ty_3 | exact ld_rp ty_3 rfl | exact d_ep ty_3)) ?_
                  refine t_old 31 rfl rfl rfl (L_bin rfl rfl rfl rfl) ?_
                  refine t_old 32 rfl rfl rfl (L_pick rfl rfl) ?_
                  refine t_old 33 rfl rfl rfl (L_pick rfl rfl) ?_
                  refine T_done (by kernel_rfl) ?_
                  refine E_cond rfl (fun hc114 => ?_) (fun hc114 => ?_)
                  · exfalso; first | (simp at hc114; done) | (have h := hok (by first | (simp at hg84; omega) | (simp at hg84 hg89; omega)); simp [h.2] at hc114)
                  · refine E_skip ?_
                    refine E_region' (L := [0, 1, 2]) rfl ?_
                    refine x_pure rfl rfl rfl (L_move rfl) ?_
                    refine x_pure rfl rfl rfl (by first | exact l_add rfl rfl rfl | exact L_bin rfl rfl rfl rfl) ?_
                    refine x_pure rfl rfl rfl (L_assign rfl) ?_
                    refine EOps_nil ?_
                    refine ⟨k + 1, ?_, ?_, rfl, ⟨.inr rfl, .inl rfl, trivial⟩, ⟨.inr rfl, .inr rfl, .inr rfl, .inr rfl, .inr rfl, .inr rfl, .inr rfl, .inr rfl, .inr rfl, .inr rfl, .inr rfl, .inr rfl, .inr rfl, .inr rfl, trivial⟩⟩
                    · first | omega | (dsimp only; omega) | (simp; omega)
                    · first | trivial | omega | (dsimp only; omega) | (simp; omega)
              · refine t_old 4 rfl rfl rfl (L_move rfl) ?_
                refine t_old 5 rfl rfl rfl (L_move rfl) ?_
                refine t_old 6 rfl rfl rfl (L_bin rfl rfl rfl rfl) ?_
                refine t_old 7 rfl rfl rfl (L_pick rfl rfl) ?_
                refine t_old 8 rfl rfl rfl (L_move rfl) ?_
                refine T_split 89 (b := _) rfl rfl (fun hg89 => ?_) (fun hg89 => ?_)
                · refine t_old 9 rfl rfl rfl (l_field rfl fo_35_0) ?_
                  refine t_light 10 rfl rfl rfl (L_load rfl (by first | exact d_bp ty_22 | exact ld_rp ty_22 rfl | exact d_ep ty_22)) ?_
                  refine t_old 11 rfl rfl rfl (L_move rfl) ?_
                  refine t_old 12 rfl rfl rfl (L_index rfl rfl (by first | exact i_ro sl_22 ty_3 | exact i_sl sl_22 ty_3)) ?_
                  refine t_light 13 rfl rfl rfl (L_load rfl (by first | exact d_bp ty_3 | exact ld_rp ty_3 rfl | exact d_ep ty_3)) ?_
                  refine t_old 14 rfl rfl rfl (l_field rfl fo_35_0) ?_
                  refine t_light 15 rfl rfl rfl (L_load rfl (by first | exact d_bp ty_22 | exact ld_rp ty_22 rfl | exact d_ep ty_22)) ?_
                  refine t_old 16 rfl rfl rfl (L_move rfl) ?_
                  refine t_old 17 rfl rfl rfl (L_index rfl rfl (by first | exact i_ro sl_22 ty_3 | exact i_sl sl_22 ty_3)) ?_
                  refine t_light 18 rfl rfl rfl (L_load rfl (by first | exact d_bp ty_3 | exact ld_rp ty_3 rfl | exact d_ep ty_3)) ?_
                  refine t_old 19 rfl rfl rfl (L_bin rfl rfl rfl rfl) ?_
                  refine t_old 20 rfl rfl rfl (L_move rfl) ?_
                  refine T_split 101 (b := _) rfl rfl (fun hg101 => ?_) (fun hg101 => ?_)
                  · exfalso; have h := hok (by first | (simp at hg84; omega) | (simp at hg84 hg89; omega)); simp [h.1] at hg101
                  · refine t_old 21 rfl rfl rfl (l_field rfl fo_35_1) ?_
                    refine t_light 22 rfl rfl rfl (L_load rfl (by first | exact d_bp ty_22 | exact ld_rp ty_22 rfl | exact d_ep ty_22)) ?_
                    refine t_old 23 rfl rfl rfl (L_move rfl) ?_
                    refine t_old 24 rfl rfl rfl (L_index rfl rfl (by first | exact i_ro sl_22 ty_3 | exact i_sl sl_22 ty_3)) ?_
                    refine t_light 25 rfl rfl rfl (L_load rfl (by first | exact d_bp ty_3 | exact ld_rp ty_3 rfl | exact d_ep ty_3)) ?_
                    refine t_old 26 rfl rfl rfl (l_field rfl fo_35_1) ?_
                    refine t_light 27 rfl rfl rfl (L_load rfl (by first | exact d_bp ty_22 | exact ld_rp ty_22 rfl | exact d_ep ty_22)) ?_
                    refine t_old 28 rfl rfl rfl (L_move rfl) ?_
                    refine t_old 29 rfl rfl rfl (L_index rfl rfl (by first | exact i_ro sl_22 ty_3 | exact i_sl sl_22 ty_3)) ?_
                    refine t_light 30 rfl rfl rfl (L_load rfl (by first | exact d_bp ty_3 | exact ld_rp ty_3 rfl | exact d_ep ty_3)) ?_
                    refine t_old 31 rfl rfl rfl (L_bin rfl rfl rfl rfl) ?_
                    refine t_old 32 rfl rfl rfl (L_pick rfl rfl) ?_
                    refine t_old 33 rfl rfl rfl (L_pick rfl rfl) ?_
                    refine T_done (by kernel_rfl) ?_
                    refine E_cond rfl (fun hc114 => ?_) (fun hc114 => ?_)
                    · exfalso; first | (simp at hc114; done) | (have h := hok (by first | (simp at hg84; omega) | (simp at hg84 hg89; omega)); simp [h.2] at hc114)
                    · refine E_skip ?_
                      refine E_region' (L := [0, 1, 2]) rfl ?_
                      refine x_pure rfl rfl rfl (L_move rfl) ?_
                      refine x_pure rfl rfl rfl (by first | exact l_add rfl rfl rfl | exact L_bin rfl rfl rfl rfl) ?_
                      refine x_pure rfl rfl rfl (L_assign rfl) ?_
                      refine EOps_nil ?_
                      refine ⟨k + 1, ?_, ?_, rfl, ⟨.inr rfl, .inl rfl, trivial⟩, ⟨.inr rfl, .inr rfl, .inr rfl, .inr rfl, .inr rfl, .inr rfl, .inr rfl, .inr rfl, .inr rfl, .inr rfl, .inr rfl, .inr rfl, .inr rfl, .inr rfl, trivial⟩⟩
                      · first | omega | (dsimp only; omega) | (simp; omega)
                      · first | trivial | omega | (dsimp only; omega) | (simp; omega)
                · refine t_skip 9 rfl rfl rfl ?_
                  refine t_skip 10 rfl rfl rfl ?_
                  refine t_skip 11 rfl rfl rfl ?_
                  refine t_skip 12 rfl rfl rfl ?_
                  refine t_skip 13 rfl rfl rfl ?_
                  refine t_skip 14 rfl rfl rfl ?_
                  refine t_skip 15 rfl rfl rfl ?_
                  refine t_skip 16 rfl rfl rfl ?_
                  refine t_skip 17 rfl rfl rfl ?_
                  refine t_skip 18 rfl rfl rfl ?_
                  refine t_skip 19 rfl rfl rfl ?_
                  refine t_skip 20 rfl rfl rfl ?_
                  refine t_skip 21 rfl rfl rfl ?_
                  refine t_skip 22 rfl rfl rfl ?_
                  refine t_skip 23 rfl rfl rfl ?_
                  refine t_skip 24 rfl rfl rfl ?_
                  refine t_skip 25 rfl rfl rfl ?_
                  refine t_skip 26 rfl rfl rfl ?_
                  refine t_skip 27 rfl rfl rfl ?_
                  refine t_skip 28 rfl rfl rfl ?_
                  refine t_skip 29 rfl rfl rfl ?_
                  refine t_skip 30 rfl rfl rfl ?_
                  refine t_skip 31 rfl rfl rfl ?_
                  refine t_skip 32 rfl rfl rfl ?_
                  refine t_old 33 rfl rfl rfl (L_pick rfl rfl) ?_
                  refine T_done (by kernel_rfl) ?_
                  refine E_cond rfl (fun hc114 => ?_) (fun hc114 => ?_)
                  · exact Bool.noConfusion (hc114 : false = true)
                  · refine E_skip ?_
                    refine E_region' (L := [0, 1, 2]) rfl ?_
                    refine x_pure rfl rfl rfl (L_move rfl) ?_
                    refine x_pure rfl rfl rfl (by first | exact l_add rfl rfl rfl | exact L_bin rfl rfl rfl rfl) ?_
                    refine x_pure rfl rfl rfl (L_assign rfl) ?_
                    refine EOps_nil ?_
                    refine ⟨k + 1, ?_, ?_, rfl, ⟨.inr rfl, .inl rfl, trivial⟩, ⟨.inr rfl, .inr rfl, .inr rfl, .inr rfl, .inr rfl, .inr rfl, .inr rfl, .inr rfl, .inr rfl, .inr rfl, .inr rfl, .inr rfl, .inr rfl, .inr rfl, trivial⟩⟩
                    · first | omega | (dsimp only; omega) | (simp; omega)
                    · first | trivial | omega | (dsimp only; omega) | (simp; omega)
            · refine E_exit ?_
              refine E_seq ?_
              refine e_tidy_A123_0 [0, 2, 3, 4, 5, 6, 7, 8, 9, 10, 11, 12, 13, 22, 57, 59, 78, 114] ?_
              refine E_region' (L := [0, 1, 2, 3, 4, 5, 6, 7]) rfl ?_
              refine x_light rfl rfl rfl (L_load rfl (by first | exact d_bp ty_35 | exact ld_rp ty_35 rfl | exact d_ep ty_35)) ?_
              refine x_pure rfl rfl rfl (L_move rfl) ?_
              refine x_call rfl rfl rfl rfl rfl ca_24 (c_impl_FindPivot c v (by omega)) ?_ (hq := by rintro r S ⟨rfl, rfl⟩; exact ⟨rfl, rfl⟩)
              rintro r S ⟨rfl, rfl⟩
              refine x_pure rfl rfl rfl (L_move rfl) ?_
              refine x_pure rfl rfl rfl (L_extract rfl rfl) ?_
              refine x_pure rfl rfl rfl (L_extract rfl rfl) ?_
              refine x_pure rfl rfl rfl (L_assign rfl) ?_
              refine x_pure rfl rfl rfl (L_assign rfl) ?_
              refine EOps_nil ?_
              refine E_seq ?_
              refine e_tidy_A123_0 [0, 2, 3, 4, 5, 6, 7, 8, 9, 10, 11, 12, 13, 15, 22, 57, 59, 78, 114] ?_
              refine E_region' (L := [0, 1, 2, 3, 4, 5, 6, 7]) rfl ?_
              refine x_light rfl rfl rfl (L_load rfl (by first | exact d_bp ty_35 | exact ld_rp ty_35 rfl | exact d_ep ty_35)) ?_
              refine x_pure rfl rfl rfl (L_move rfl) ?_
              refine x_call rfl rfl rfl rfl rfl ca_24 (c_impl_FindPivot X v (by omega)) ?_ (hq := by rintro r S ⟨rfl, rfl⟩; exact ⟨rfl, rfl⟩)
              rintro r S ⟨rfl, rfl⟩
              refine x_pure rfl rfl rfl (L_move rfl) ?_
              refine x_pure rfl rfl rfl (L_extract rfl rfl) ?_
              refine x_pure rfl rfl rfl (L_extract rfl rfl) ?_
              refine x_pure rfl rfl rfl (L_assign rfl) ?_
              refine x_pure rfl rfl rfl (L_assign rfl) ?_
              refine EOps_nil ?_
              refine E_seq ?_
              refine e_tidy_A123_0 [0, 2, 3, 4, 5, 6, 7, 8, 9, 10, 11, 12, 13, 15, 16, 17, 22, 57, 59, 78, 114] ?_
              refine E_region' (L := [0, 1, 2, 3, 4, 5, 6, 7, 8, 9, 10]) rfl ?_
              refine x_light rfl rfl rfl (L_load rfl (by first | exact d_bp ty_35 | exact ld_rp ty_35 rfl | exact d_ep ty_35)) ?_
              refine x_pure rfl rfl rfl (L_move rfl) ?_
              refine x_call rfl rfl rfl rfl rfl ca_20 (c_impl_CrackAt X v (by omega)) ?_
              rintro r S ⟨rfl, rfl⟩
              rw [e3, e4, hk2]
              refine x_pure rfl rfl rfl (L_move rfl) ?_
              refine x_pure rfl rfl rfl (L_extract rfl rfl) ?_
              refine x_pure rfl rfl rfl (L_extract rfl rfl) ?_
              refine x_pure rfl rfl rfl (L_extract rfl rfl) ?_
              refine x_alloc rfl rfl rfl rfl za_35 ?_
              refine EOps_go rfl rfl (EOp_store rfl rfl rfl (by first | exact s_bp ty_35 | exact s_ep ty_35) ?_)
              refine x_pure rfl rfl rfl (L_assign rfl) ?_
              refine x_pure rfl rfl rfl (L_assign rfl) ?_
              refine EOps_nil ?_
              refine E_seq ?_
              refine e_tidy_A123_0 [0, 2, 3, 4, 5, 6, 7, 8, 9, 10, 11, 12, 13, 15, 16, 17, 18, 19, 20, 22, 57, 59, 78, 114] ?_
              refine E_drawT mixed ?_
              refine t_old 0 rfl rfl rfl (L_move rfl) ?_
              refine t_old 1 rfl rfl rfl (L_move rfl) ?_
              refine T_split 135 (b := _) rfl rfl (fun hg135 => ?_) (fun hg135 => ?_)
              · refine t_old 2 rfl rfl rfl (L_move rfl) ?_
                refine t_old 3 rfl rfl rfl (L_move rfl) ?_
                refine t_old 4 rfl rfl rfl (L_bin rfl rfl rfl rfl) ?_
                refine t_old 5 rfl rfl rfl (L_pick rfl rfl) ?_
                refine t_old 6 rfl rfl rfl (L_move rfl) ?_
                refine T_split 140 (b := _) rfl rfl (fun hg140 => ?_) (fun hg140 => ?_)
                · refine t_old 7 rfl rfl rfl (L_move rfl) ?_
                  refine t_old 8 rfl rfl rfl (L_move rfl) ?_
                  refine t_old 9 rfl rfl rfl (L_bin rfl rfl rfl rfl) ?_
                  refine t_old 10 rfl rfl rfl (L_pick rfl rfl) ?_
                  refine t_old 11 rfl rfl rfl (L_move rfl) ?_
                  refine T_split 145 (b := _) rfl rfl (fun hg145 => ?_) (fun hg145 => ?_)
                  · refine t_old 12 rfl rfl rfl (l_field rfl fo_35_2) ?_
                    refine t_light 13 rfl rfl rfl (L_load rfl (by first | exact d_bp ty_33 | exact ld_rp ty_33 rfl | exact d_ep ty_33)) ?_
                    refine t_old 14 rfl rfl rfl (l_len rfl sl_33) ?_
                    refine t_old 15 rfl rfl rfl (l_field rfl fo_35_2) ?_
                    refine t_light 16 rfl rfl rfl (L_load rfl (by first | exact d_bp ty_33 | exact ld_rp ty_33 rfl | exact d_ep ty_33)) ?_
                    refine t_old 17 rfl rfl rfl (l_len rfl sl_33) ?_
                    refine t_old 18 rfl rfl rfl (L_move rfl) ?_
                    refine t_old 19 rfl rfl rfl (L_not rfl rfl) ?_
                    refine t_call 20 rfl rfl rfl rfl rfl ca_25 (c_laws_btoi _) ?_
                    rintro r S ⟨rfl, rfl⟩
                    refine t_old 21 rfl rfl rfl (by first | exact l_add rfl rfl rfl | exact L_bin rfl rfl rfl rfl) ?_
                    refine t_old 22 rfl rfl rfl (L_bin rfl rfl rfl rfl) ?_
                    refine t_old 23 rfl rfl rfl (L_pick rfl rfl) ?_
                    refine t_old 24 rfl rfl rfl (L_move rfl) ?_
                    refine T_split 158 (b := _) rfl rfl (fun hg158 => ?_) (fun hg158 => ?_)
                    · refine t_old 25 rfl rfl rfl (L_move rfl) ?_
                      refine t_old 26 rfl rfl rfl (L_pick rfl rfl) ?_
                      refine t_old 27 rfl rfl rfl (L_move rfl) ?_
                      refine T_split 161 (b := _) rfl rfl (fun hg161 => ?_) (fun hg161 => ?_)
                      · refine t_old 28 rfl rfl rfl (L_move rfl) ?_
                        refine t_old 29 rfl rfl rfl (l_len rfl sl_54) ?_
                        refine t_old 30 rfl rfl rfl (L_bin rfl rfl rfl rfl) ?_
                        refine t_old 31 rfl rfl rfl (L_pick rfl rfl) ?_
                        refine t_old 32 rfl rfl rfl (L_move rfl) ?_
                        refine T_split 166 (b := _) rfl rfl (fun hg166 => ?_) (fun hg166 => ?_)
                        · refine t_light 33 rfl rfl rfl (L_load rfl (by first | exact d_bp ty_35 | exact ld_rp ty_35 rfl | exact d_ep ty_35)) ?_
                          refine t_light 34 rfl rfl rfl (L_load rfl (by first | exact d_bp ty_35 | exact ld_rp ty_35 rfl | exact d_ep ty_35)) ?_
                          refine t_call 35 rfl rfl rfl rfl rfl ca_22 (c_spec_EqualCrackers X X) ?_
                          rintro r S ⟨rfl, rfl⟩
                          refine t_old 36 rfl rfl rfl (L_pick rfl rfl) ?_
                          refine t_old 37 rfl rfl rfl (L_move rfl) ?_
                          refine T_split 171 (b := _) rfl rfl (fun hg171 => ?_) (fun hg171 => ?_)
                          · refine t_light 38 rfl rfl rfl (L_load rfl (by first | exact d_bp ty_35 | exact ld_rp ty_35 rfl | exact d_ep ty_35)) ?_
                            refine t_call 39 rfl rfl rfl rfl rfl ca_26 (c_impl_IsCracker X) ?_
                            rintro r S ⟨rfl, rfl⟩
                            refine t_old 40 rfl rfl rfl (L_pick rfl rfl) ?_
                            refine t_old 41 rfl rfl rfl (L_move rfl) ?_
                            refine T_split 175 (b := _) rfl rfl (fun hg175 => ?_) (fun hg175 => ?_)
                            · refine t_light 42 rfl rfl rfl (L_load rfl (by first | exact d_bp ty_35 | exact ld_rp ty_35 rfl | exact d_ep ty_35)) ?_
                              refine t_light 44 rfl rfl rfl (L_load rfl (by first | exact d_bp ty_35 | exact ld_rp ty_35 rfl | exact d_ep ty_35)) ?_
                              refine t_fresh 3 [(⟨none, 43, 177, 0⟩, _), (⟨none, 45, 179, 0⟩, _)] [(177, .any), (179, .any)] [43, 45] ⟨.one rfl rfl rfl (by decide) (f_call rfl rfl ca_28 (c_laws_pairsOf X hx)), .one rfl rfl rfl (by decide) (f_call rfl rfl ca_28 (c_laws_pairsOf c hc)), trivial⟩ ?_
                              refine fk_cons ?_
                              rintro r S ⟨rfl, rfl⟩
                              refine fk_cons ?_
                              rintro r S ⟨rfl, rfl⟩
                              refine fk_nil ?_
                              refine t_call 46 rfl rfl rfl rfl rfl ca_27 (c_laws_sameInts (prL X) (prL c)) ?_
                              rintro r S ⟨rfl, rfl⟩
                              refine t_old 47 rfl rfl rfl (L_pick rfl rfl) ?_
                              refine t_old 48 rfl rfl rfl (L_assign rfl) ?_
                              refine T_done (by kernel_rfl) ?_
                              refine E_ret ?_
                              refine ⟨_, [], rfl, rfl, bool_eq ?_, rfl⟩
                              simp [hprl]
                            · simp [hx] at hg175
                          · simp at hg171
                        · simp at hg166
                      · simp at hg161
                    · exfalso; simp [hpl] at hg158; revert hg158; cases isPv c.piv v <;> simp <;> omega
                  · simp at hg145; omega
                · simp at hg140; omega
              · simp [hpv] at hg135

end Go.Proofs.Ytlodlnbhjghjoaa.E
