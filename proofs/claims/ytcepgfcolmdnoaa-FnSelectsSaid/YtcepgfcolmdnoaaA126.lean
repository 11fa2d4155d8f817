/- Walks through functions, by program out of the session's annotations. -/
import Derived.Test.YtcepgfcolmdnoaaA125
namespace Go.Proofs.Ytcepgfcolmdnoaa.E
open Go Go.RowKit Go.Proofs
set_option linter.unusedVariables false
set_option linter.unusedSimpArgs false

structure SelOk (c : Crk) (r : Int × Int) : Prop where
 ok : isCrk (selC c r) = true
 p1 : isPv (selC c r).piv r.1 = true
 p2 : isPv (selC c r).piv r.2 = true
 lo : fpAt (selC c r).piv r.1 = selLo c r
 hi : fpAt (selC c r).piv r.2 = selHi c r
 rw : rowsB (selC c r) (selLo c r) (selHi c r) = riL c r
 nn : 0 ≤ selN c r ∧ selN c r ≤ c.vals.length
 pr : prL (selC c r) = prL c
theorem sel_ok {c : Crk} {r : Int × Int} (hk : selK c r = true) : SelOk c r := by
 have hcv : isCrk c = true ∧ isRng r = true := by simpa [selK] using hk
 have hbd := rng_bnd hcv.2
 have hin := sel_in hk
 have h1 := (crackC_ok hcv.1 hbd.1).1
 have h2 := (crackC_ok h1 hbd.2).1
 have e : selC c r = (crackC (crackC c r.1).1 r.2).1 := by rw [selC, if_pos hk, sel2]
 have e1 : selLo c r = fpAt (selC c r).piv r.1 := by rw [e, selLo, if_pos hk, sel2]
 have e2 : selHi c r = fpAt (selC c r).piv r.2 := by rw [e, selHi, if_pos hk, sel2]
 have p1 : isPv (selC c r).piv r.1 = true := by rw [e]; exact crackC_keep crackC_pv
 have p2 : isPv (selC c r).piv r.2 = true := by rw [e]; exact crackC_pv
 have hpm : (zpC (selC c r)).Perm (zpC c) := by rw [e]; exact (crack_perm h1 hbd.2).trans (crack_perm hcv.1 hbd.1)
 have hl := crk_lens hin.1
 have hcl := crk_lens hcv.1
 have hn1 := crack_half hcv.1 hbd.1
 have hn2 := crack_half h1 hbd.2
 rw [crackC_vals] at hn2
 refine ⟨hin.1, p1, p2, e1.symm, e2.symm, ?_, ?_, prL_of hl.2.1 hcl.2.1 hpm⟩
 ·rw [← riL_of (r := r) hl.2.1 hcl.2.1 hpm, riL_mid hin.1 hcv.2 p1 p2 (by rw [← e1, ← e2]; exact hin.2.2.1), e1, e2]
 ·rw [selN, if_pos hk, sel2]; omega

theorem e_tidy_A126_0 {P : Program} {N : Nat} {s : Slots} {R : List Res} {Q : Exit → Slots → List Res → Prop} {c : Code} (keep : List Nat) {base : Slots} {R' : List Res} (h : ECode P N c base R' Q) (hb : keepOf s keep = base := by simp only [E.keepOf, E.get, E.ev, E.cv, E.fill', E.fill, E.slotsOf, Res.sh, AC.sh, AC.sh.shs, AV.sh, E.splice, List.map_cons, List.map_nil, List.cons_append, List.nil_append, List.append_nil, List.length_cons, List.length_nil, List.take_zero, List.drop_zero, List.take_succ_cons, List.drop_succ_cons, List.drop_nil, List.take_nil, List.set_cons_zero, List.set_cons_succ, Nat.zero_add, Nat.add_zero, Nat.reduceAdd, Nat.reduceSub, reduceIte, Nat.reduceEqDiff, E.back, E.backR, E.ix, Res.un, AC.un, AC.un.uns, AV.un, E.un, Option.map_some, Option.map_none, Option.getD_some, List.getElem?_cons_zero, List.getElem?_cons_succ, List.getElem?_nil, crkR, crkO]; rfl) (hR : R = R' := by (try simp only [E.keepOf, E.get, E.ev, E.cv, E.fill', E.fill, E.slotsOf, Res.sh, AC.sh, AC.sh.shs, AV.sh, E.splice, List.map_cons, List.map_nil, List.cons_append, List.nil_append, List.append_nil, List.length_cons, List.length_nil, List.take_zero, List.drop_zero, List.take_succ_cons, List.drop_succ_cons, List.drop_nil, List.take_nil, List.set_cons_zero, List.set_cons_succ, Nat.zero_add, Nat.add_zero, Nat.reduceAdd, Nat.reduceSub, reduceIte, Nat.reduceEqDiff, E.back, E.backR, E.ix, Res.un, AC.un, AC.un.uns, AV.un, E.un, Option.map_some, Option.map_none, Option.getD_some, List.getElem?_cons_zero, List.getElem?_cons_succ, List.getElem?_nil, crkR, crkO]); rfl) : ECode P N c s R Q := E_tidy keep hb hR h

set_option maxRecDepth 20000 in
set_option maxHeartbeats 8000000 in
theorem c_laws_FnSelects (l : List Int) (hb0 : ∀ x ∈ l, 0 ≤ x ∧ x ≤ 255) : EFn Try.prog 4 [.c (.ro (bytes l))] [] (fun r S => r = .c (.sc (.bool true)) ∧ S = []) := by
 refine E_fn Try.func4 rfl (Nat.le_of_ble_eq_true rfl) ?_
 refine E_seq ?_
 refine E_region' (L := [0]) rfl ?_
 refine xas ?_
 refine EOps_nil ?_
 refine E_seq ?_
 refine E_seq ?_
 refine e_tidy_A126_0 [0, 2] ?_
 refine E_region' (L := [0, 1]) rfl ?_
 refine xmv ?_
 refine x_call rfl rfl rfl rfl rfl ca_10 (c_laws_big l) ?_
 rintro r S ⟨rfl, rfl⟩
 refine EOps_nil ?_
 refine E_cond rfl (fun hc20 => ?_) (fun hc20 => ?_)
 ·refine E_seq ?_
  refine E_region' (L := [0]) rfl ?_
  refine xas ?_
  refine EOps_nil ?_
  refine E_ret ?_
  exact ⟨_, [], rfl, rfl, rfl, rfl⟩
 ·have hb : byL l := ⟨hb0, by simp at hc20; omega⟩
  refine E_skip ?_
  refine E_seq ?_
  refine e_tidy_A126_0 [0, 2, 20] ?_
  refine E_region' (L := [0, 1, 2, 3, 4, 5, 6, 7, 8]) rfl ?_
  refine xmv ?_
  refine x_call rfl rfl rfl rfl rfl ca_18 (c_spec_DrawSelectRange l hb) ?_ (hq := by rintro r S ⟨_, _, ⟨rfl, rfl⟩, _, _, _⟩; exact ⟨rfl, rfl⟩)
  rintro r S ⟨c, x, ⟨rfl, rfl⟩, hcv, hcr, hcp⟩
  have hcb : c.vals.length ≤ 1048576 ∧ c.rows.length ≤ 1048576 ∧ c.piv.length ≤ 1048576 := by omega
  have hle := sel_le (c := c) (r := x) hcb
  refine xmv ?_
  refine x_pure rfl rfl rfl (L_extract rfl rfl) ?_
  refine x_pure rfl rfl rfl (L_extract rfl rfl) ?_
  refine x_alloc rfl rfl rfl rfl za_27 ?_
  refine x_alloc rfl rfl rfl rfl za_41 ?_
  refine EOps_go rfl rfl (EOp_store rfl rfl rfl (by first | exact s_bp ty_27 | exact s_ep ty_27) ?_)
  refine EOps_go rfl rfl (EOp_store rfl rfl rfl (by first | exact s_bp ty_41 | exact s_ep ty_41) ?_)
  refine EOps_nil ?_
  refine E_seq ?_
  refine e_tidy_A126_0 [0, 2, 3, 4, 20] ?_
  refine E_region' (L := [0, 1, 2, 3, 4, 5, 6, 7, 8, 9, 10, 11, 12]) rfl ?_
  refine x_light rfl rfl rfl (L_load rfl (by first | exact d_bp ty_27 | exact ld_rp ty_27 rfl | exact d_ep ty_27)) ?_
  refine x_light rfl rfl rfl (L_load rfl (by first | exact d_bp ty_41 | exact ld_rp ty_41 rfl | exact d_ep ty_41)) ?_
  refine x_call rfl rfl rfl rfl rfl ca_19 (c_impl_SelectRange c x hcb) ?_
  rintro r S ⟨rfl, rfl⟩
  refine xmv ?_
  refine x_pure rfl rfl rfl (L_extract rfl rfl) ?_
  refine x_pure rfl rfl rfl (L_extract rfl rfl) ?_
  refine x_pure rfl rfl rfl (L_extract rfl rfl) ?_
  refine x_pure rfl rfl rfl (L_extract rfl rfl) ?_
  refine x_alloc rfl rfl rfl rfl za_27 ?_
  refine EOps_go rfl rfl (EOp_store rfl rfl rfl (by first | exact s_bp ty_27 | exact s_ep ty_27) ?_)
  refine xas ?_
  refine xas ?_
  refine xas ?_
  refine EOps_nil ?_
  refine E_seq ?_
  refine e_tidy_A126_0 [0, 2, 3, 4, 5, 6, 7, 8, 20] ?_
  refine E_region' (L := [0, 1, 2, 3, 4, 5, 6, 7, 8, 9, 10, 11, 12]) rfl ?_
  refine x_light rfl rfl rfl (L_load rfl (by first | exact d_bp ty_27 | exact ld_rp ty_27 rfl | exact d_ep ty_27)) ?_
  refine x_light rfl rfl rfl (L_load rfl (by first | exact d_bp ty_41 | exact ld_rp ty_41 rfl | exact d_ep ty_41)) ?_
  refine x_call rfl rfl rfl rfl rfl ca_20 (c_spec_SelectRange c x hcb) ?_
  rintro r S ⟨rfl, rfl⟩
  refine xmv ?_
  refine x_pure rfl rfl rfl (L_extract rfl rfl) ?_
  refine x_pure rfl rfl rfl (L_extract rfl rfl) ?_
  refine x_pure rfl rfl rfl (L_extract rfl rfl) ?_
  refine x_pure rfl rfl rfl (L_extract rfl rfl) ?_
  refine x_alloc rfl rfl rfl rfl za_27 ?_
  refine EOps_go rfl rfl (EOp_store rfl rfl rfl (by first | exact s_bp ty_27 | exact s_ep ty_27) ?_)
  refine xas ?_
  refine xas ?_
  refine xas ?_
  refine EOps_nil ?_
  refine E_seq ?_
  refine E_seq ?_
  refine e_tidy_A126_0 [0, 2, 3, 4, 5, 6, 7, 8, 9, 10, 11, 12, 20] ?_
  refine E_region' (L := [0, 1, 2, 3, 4, 5, 6, 7, 8, 9, 10, 11, 12, 13, 14, 15, 16, 17, 18]) rfl ?_
  refine x_light rfl rfl rfl (L_load rfl (by first | exact d_bp ty_27 | exact ld_rp ty_27 rfl | exact d_ep ty_27)) ?_
  refine x_light rfl rfl rfl (L_load rfl (by first | exact d_bp ty_27 | exact ld_rp ty_27 rfl | exact d_ep ty_27)) ?_
  refine x_call rfl rfl rfl rfl rfl ca_16 (c_spec_EqualCrackers (selC c x) (selC c x)) ?_
  rintro r S ⟨rfl, rfl⟩
  refine x_pure rfl rfl rfl (L_not rfl rfl) ?_
  refine xmv ?_
  refine EOps_split 46 (b := _) rfl (fun hg46 => ?_) (fun hg46 => ?_)
  ·simp at hg46
  ·refine xmv ?_
   refine xmv ?_
   refine x_pure rfl rfl rfl (L_bin rfl rfl rfl rfl) ?_
   refine x_pure rfl rfl rfl (L_pick rfl rfl) ?_
   refine xmv ?_
   refine EOps_split 51 (b := _) rfl (fun hg51 => ?_) (fun hg51 => ?_)
   ·simp at hg51
   ·refine xmv ?_
    refine xmv ?_
    refine x_pure rfl rfl rfl (L_bin rfl rfl rfl rfl) ?_
    refine x_pure rfl rfl rfl (L_pick rfl rfl) ?_
    refine xmv ?_
    refine EOps_split 56 (b := _) rfl (fun hg56 => ?_) (fun hg56 => ?_)
    ·simp at hg56
    ·refine xmv ?_
     refine xmv ?_
     refine x_pure rfl rfl rfl (L_bin rfl rfl rfl rfl) ?_
     refine x_pure rfl rfl rfl (L_pick rfl rfl) ?_
     refine EOps_nil ?_
     refine E_cond rfl (fun hc60 => ?_) (fun hc60 => ?_)
     ·simp at hc60
     ·refine E_skip ?_
      refine E_seq ?_
      refine E_seq ?_
      refine e_tidy_A126_0 [0, 2, 3, 4, 5, 6, 7, 8, 9, 10, 11, 12, 20, 60] ?_
      refine E_region' (L := [0, 1, 2, 3, 4, 5, 6, 7]) rfl ?_
      refine x_light rfl rfl rfl (L_load rfl (by first | exact d_bp ty_27 | exact ld_rp ty_27 rfl | exact d_ep ty_27)) ?_
      refine x_call rfl rfl rfl rfl rfl ca_21 (c_spec_IsCracker c) ?_
      rintro r S ⟨rfl, rfl⟩
      refine x_pure rfl rfl rfl (L_not rfl rfl) ?_
      refine xmv ?_
      refine EOps_split 64 (b := _) rfl (fun hg64 => ?_) (fun hg64 => ?_)
      ·refine x_skip rfl rfl rfl ?_
       refine x_skip rfl rfl rfl ?_
       refine x_skip rfl rfl rfl ?_
       refine x_pure rfl rfl rfl (L_pick rfl rfl) ?_
       refine EOps_nil ?_
       refine E_cond rfl (fun hc68 => ?_) (fun hc68 => ?_)
       ·have hk : selK c x = false := by
         simp only [selK]
         simp_all
        have e1 : selC c x = c := by rw [selC, hk]; rfl
        rw [e1]
        refine E_seq ?_
        refine e_tidy_A126_0 [0, 2, 3, 4, 5, 6, 7, 8, 9, 10, 11, 12, 20, 60, 68] ?_
        refine E_region' (L := [0, 1, 2, 3]) rfl ?_
        refine x_light rfl rfl rfl (L_load rfl (by first | exact d_bp ty_27 | exact ld_rp ty_27 rfl | exact d_ep ty_27)) ?_
        refine x_light rfl rfl rfl (L_load rfl (by first | exact d_bp ty_27 | exact ld_rp ty_27 rfl | exact d_ep ty_27)) ?_
        refine x_call rfl rfl rfl rfl rfl ca_16 (c_spec_EqualCrackers c c) ?_
        rintro r S ⟨rfl, rfl⟩
        refine xas ?_
        refine EOps_nil ?_
        refine E_ret ?_
        refine ⟨_, [], rfl, rfl, bool_eq ?_, rfl⟩
        simp
       ·exact Bool.noConfusion (hc68 : true = false)
      ·refine x_light rfl rfl rfl (L_load rfl (by first | exact d_bp ty_41 | exact ld_rp ty_41 rfl | exact d_ep ty_41)) ?_
       refine x_call rfl rfl rfl rfl rfl ca_22 (c_spec_IsRange x) ?_
       rintro r S ⟨rfl, rfl⟩
       refine x_pure rfl rfl rfl (L_not rfl rfl) ?_
       refine x_pure rfl rfl rfl (L_pick rfl rfl) ?_
       refine EOps_nil ?_
       refine E_cond rfl (fun hc68 => ?_) (fun hc68 => ?_)
       ·have hk : selK c x = false := by
         simp only [selK]
         simp_all
        have e1 : selC c x = c := by rw [selC, hk]; rfl
        rw [e1]
        refine E_seq ?_
        refine e_tidy_A126_0 [0, 2, 3, 4, 5, 6, 7, 8, 9, 10, 11, 12, 20, 60, 68] ?_
        refine E_region' (L := [0, 1, 2, 3]) rfl ?_
        refine x_light rfl rfl rfl (L_load rfl (by first | exact d_bp ty_27 | exact ld_rp ty_27 rfl | exact d_ep ty_27)) ?_
        refine x_light rfl rfl rfl (L_load rfl (by first | exact d_bp ty_27 | exact ld_rp ty_27 rfl | exact d_ep ty_27)) ?_
        refine x_call rfl rfl rfl rfl rfl ca_16 (c_spec_EqualCrackers c c) ?_
        rintro r S ⟨rfl, rfl⟩
        refine xas ?_
        refine EOps_nil ?_
        refine E_ret ?_
        refine ⟨_, [], rfl, rfl, bool_eq ?_, rfl⟩
        first | (simp [k8]; done) | simp
       ·have hk : selK c x = true := by
         simp only [selK]
         simp_all
        have hcc : isCrk c = true ∧ isRng x = true := by simpa [selK] using hk
        have hok := sel_ok hk
        obtain ⟨k1, k2, k3, k4, k5, k6, k7, k8⟩ := hok
        refine E_skip ?_
        refine E_seq ?_
        refine e_tidy_A126_0 [0, 2, 3, 4, 5, 6, 7, 8, 9, 10, 11, 12, 20, 60, 68] ?_
        refine E_region' (L := [0, 1, 2, 3, 4, 5, 6, 7, 8]) rfl ?_
        refine x_light rfl rfl rfl (L_load rfl (by first | exact d_bp ty_27 | exact ld_rp ty_27 rfl | exact d_ep ty_27)) ?_
        refine x_pure rfl rfl rfl (l_field rfl fo_41_0) ?_
        refine x_light rfl rfl rfl (L_load rfl (by first | exact d_bp ty_3 | exact ld_rp ty_3 rfl | exact d_ep ty_3)) ?_
        refine x_call rfl rfl rfl rfl rfl ca_23 (c_impl_FindPivot (selC c x) x.1 (by omega)) ?_
        rintro r S ⟨rfl, rfl⟩
        refine xmv ?_
        refine x_pure rfl rfl rfl (L_extract rfl rfl) ?_
        refine x_pure rfl rfl rfl (L_extract rfl rfl) ?_
        refine xas ?_
        refine xas ?_
        refine EOps_nil ?_
        refine E_seq ?_
        refine e_tidy_A126_0 [0, 2, 3, 4, 5, 6, 7, 8, 9, 10, 11, 12, 13, 14, 20, 60, 68] ?_
        refine E_region' (L := [0, 1, 2, 3, 4, 5, 6, 7, 8]) rfl ?_
        refine x_light rfl rfl rfl (L_load rfl (by first | exact d_bp ty_27 | exact ld_rp ty_27 rfl | exact d_ep ty_27)) ?_
        refine x_pure rfl rfl rfl (l_field rfl fo_41_1) ?_
        refine x_light rfl rfl rfl (L_load rfl (by first | exact d_bp ty_3 | exact ld_rp ty_3 rfl | exact d_ep ty_3)) ?_
        refine x_call rfl rfl rfl rfl rfl ca_23 (c_impl_FindPivot (selC c x) x.2 (by omega)) ?_
        rintro r S ⟨rfl, rfl⟩
        refine xmv ?_
        refine x_pure rfl rfl rfl (L_extract rfl rfl) ?_
        refine x_pure rfl rfl rfl (L_extract rfl rfl) ?_
        refine xas ?_
        refine xas ?_
        refine EOps_nil ?_
        refine E_seq ?_
        refine e_tidy_A126_0 [0, 2, 3, 4, 5, 6, 7, 8, 9, 10, 11, 12, 13, 14, 15, 16, 20, 60, 68] ?_
        refine E_region' (L := [0, 1, 2, 3, 4, 5, 6, 7, 8]) rfl ?_
        refine x_light rfl rfl rfl (L_load rfl (by first | exact d_bp ty_27 | exact ld_rp ty_27 rfl | exact d_ep ty_27)) ?_
        refine x_light rfl rfl rfl (L_load rfl (by first | exact d_bp ty_41 | exact ld_rp ty_41 rfl | exact d_ep ty_41)) ?_
        refine x_call rfl rfl rfl rfl rfl ca_24 (c_impl_AnswerRange c x hcb) ?_
        rintro r S ⟨rfl, rfl⟩
        refine xmv ?_
        refine x_pure rfl rfl rfl (L_extract rfl rfl) ?_
        refine x_pure rfl rfl rfl (L_extract rfl rfl) ?_
        refine x_alloc rfl rfl rfl rfl za_27 ?_
        refine EOps_go rfl rfl (EOp_store rfl rfl rfl (by first | exact s_bp ty_27 | exact s_ep ty_27) ?_)
        refine xas ?_
        refine EOps_nil ?_
        refine E_seq ?_
        refine e_tidy_A126_0 [0, 2, 3, 4, 5, 6, 7, 8, 9, 10, 11, 12, 13, 14, 15, 16, 17, 18, 20, 60, 68] ?_
        refine E_drawT mixed ?_
        refine t_old 0 rfl rfl rfl (L_move rfl) ?_
        refine t_old 1 rfl rfl rfl (L_move rfl) ?_
        refine T_split 93 (b := _) rfl rfl (fun hg93 => ?_) (fun hg93 => ?_)
        ·refine t_old 2 rfl rfl rfl (L_move rfl) ?_
         refine t_old 3 rfl rfl rfl (L_pick rfl rfl) ?_
         refine t_old 4 rfl rfl rfl (L_move rfl) ?_
         refine T_split 96 (b := _) rfl rfl (fun hg96 => ?_) (fun hg96 => ?_)
         ·refine t_old 5 rfl rfl rfl (L_move rfl) ?_
          refine t_old 6 rfl rfl rfl (L_move rfl) ?_
          refine t_old 7 rfl rfl rfl (L_bin rfl rfl rfl rfl) ?_
          refine t_old 8 rfl rfl rfl (L_pick rfl rfl) ?_
          refine t_old 9 rfl rfl rfl (L_move rfl) ?_
          refine T_split 101 (b := _) rfl rfl (fun hg101 => ?_) (fun hg101 => ?_)
          ·refine t_old 10 rfl rfl rfl (L_move rfl) ?_
           refine t_old 11 rfl rfl rfl (L_move rfl) ?_
           refine t_old 12 rfl rfl rfl (L_bin rfl rfl rfl rfl) ?_
           refine t_old 13 rfl rfl rfl (L_pick rfl rfl) ?_
           refine t_old 14 rfl rfl rfl (L_move rfl) ?_
           refine T_split 106 (b := _) rfl rfl (fun hg106 => ?_) (fun hg106 => ?_)
           ·refine t_light 15 rfl rfl rfl (L_load rfl (by first | exact d_bp ty_27 | exact ld_rp ty_27 rfl | exact d_ep ty_27)) ?_
            refine t_light 16 rfl rfl rfl (L_load rfl (by first | exact d_bp ty_27 | exact ld_rp ty_27 rfl | exact d_ep ty_27)) ?_
            refine t_call 17 rfl rfl rfl rfl rfl ca_16 (c_spec_EqualCrackers (selC c x) (selC c x)) ?_
            rintro r S ⟨rfl, rfl⟩
            refine t_old 18 rfl rfl rfl (L_pick rfl rfl) ?_
            refine t_old 19 rfl rfl rfl (L_move rfl) ?_
            refine T_split 111 (b := _) rfl rfl (fun hg111 => ?_) (fun hg111 => ?_)
            ·refine t_old 20 rfl rfl rfl (L_move rfl) ?_
             refine t_light 21 rfl rfl rfl (L_load rfl (by first | exact d_bp ty_27 | exact ld_rp ty_27 rfl | exact d_ep ty_27)) ?_
             refine t_light 22 rfl rfl rfl (L_load rfl (by first | exact d_bp ty_41 | exact ld_rp ty_41 rfl | exact d_ep ty_41)) ?_
             refine t_call 23 rfl rfl rfl rfl rfl ca_26 (c_laws_rowsIn c x hcc.1) ?_
             rintro r S ⟨rfl, rfl⟩
             refine t_call 24 rfl rfl rfl rfl rfl ca_25 (c_laws_sameInts (rowsB (selC c x) (selLo c x) (selHi c x)) (riL c x)) ?_
             rintro r S ⟨rfl, rfl⟩
             refine t_old 25 rfl rfl rfl (L_pick rfl rfl) ?_
             refine t_old 26 rfl rfl rfl (L_move rfl) ?_
             refine T_split 118 (b := _) rfl rfl (fun hg118 => ?_) (fun hg118 => ?_)
             ·refine t_light 27 rfl rfl rfl (L_load rfl (by first | exact d_bp ty_27 | exact ld_rp ty_27 rfl | exact d_ep ty_27)) ?_
              refine t_old 28 rfl rfl rfl (L_move rfl) ?_
              refine t_old 29 rfl rfl rfl (L_move rfl) ?_
              refine t_old 31 rfl rfl rfl (L_move rfl) ?_
              refine t_call 30 rfl rfl rfl rfl rfl ca_27 (c_impl_RowsBetween (selC c x) (selLo c x) (selHi c x) hle) ?_
              rintro r S ⟨rfl, rfl⟩
              refine t_call 32 rfl rfl rfl rfl rfl ca_25 (c_laws_sameInts (rowsB (selC c x) (selLo c x) (selHi c x)) (rowsB (selC c x) (selLo c x) (selHi c x))) ?_
              rintro r S ⟨rfl, rfl⟩
              refine t_old 33 rfl rfl rfl (L_pick rfl rfl) ?_
              refine t_old 34 rfl rfl rfl (L_move rfl) ?_
              refine T_split 126 (b := _) rfl rfl (fun hg126 => ?_) (fun hg126 => ?_)
              ·refine t_old 35 rfl rfl rfl (L_move rfl) ?_
               refine t_old 36 rfl rfl rfl (l_field rfl fo_27_0) ?_
               refine t_light 37 rfl rfl rfl (L_load rfl (by first | exact d_bp ty_24 | exact ld_rp ty_24 rfl | exact d_ep ty_24)) ?_
               refine t_old 38 rfl rfl rfl (l_len rfl sl_24) ?_
               refine t_old 39 rfl rfl rfl (L_bin rfl rfl rfl rfl) ?_
               refine t_old 40 rfl rfl rfl (L_pick rfl rfl) ?_
               refine t_old 41 rfl rfl rfl (L_move rfl) ?_
               refine T_split 133 (b := _) rfl rfl (fun hg133 => ?_) (fun hg133 => ?_)
               ·refine t_light 42 rfl rfl rfl (L_load rfl (by first | exact d_bp ty_27 | exact ld_rp ty_27 rfl | exact d_ep ty_27)) ?_
                refine t_call 43 rfl rfl rfl rfl rfl ca_28 (c_impl_IsCracker (selC c x)) ?_
                rintro r S ⟨rfl, rfl⟩
                refine t_old 44 rfl rfl rfl (L_pick rfl rfl) ?_
                refine t_old 45 rfl rfl rfl (L_move rfl) ?_
                refine T_split 137 (b := _) rfl rfl (fun hg137 => ?_) (fun hg137 => ?_)
                ·refine t_light 46 rfl rfl rfl (L_load rfl (by first | exact d_bp ty_27 | exact ld_rp ty_27 rfl | exact d_ep ty_27)) ?_
                 refine t_light 48 rfl rfl rfl (L_load rfl (by first | exact d_bp ty_27 | exact ld_rp ty_27 rfl | exact d_ep ty_27)) ?_
                 refine t_fresh 3 [(⟨none, 47, 139, 0⟩, _), (⟨none, 49, 141, 0⟩, _)] [(139, .any), (141, .any)] [47, 49] ⟨.one rfl rfl rfl (by decide) (f_call rfl rfl ca_29 (c_laws_pairsOf (selC c x) k1)), .one rfl rfl rfl (by decide) (f_call rfl rfl ca_29 (c_laws_pairsOf c hcc.1)), trivial⟩ ?_
                 refine fk_cons ?_
                 rintro r S ⟨rfl, rfl⟩
                 refine fk_cons ?_
                 rintro r S ⟨rfl, rfl⟩
                 refine fk_nil ?_
                 refine t_call 50 rfl rfl rfl rfl rfl ca_25 (c_laws_sameInts (prL (selC c x)) (prL c)) ?_
                 rintro r S ⟨rfl, rfl⟩
                 refine t_old 51 rfl rfl rfl (L_pick rfl rfl) ?_
                 refine t_old 52 rfl rfl rfl (L_assign rfl) ?_
                 refine T_done (by kernel_rfl) ?_
                 refine E_ret ?_
                 refine ⟨_, [], rfl, rfl, bool_eq ?_, rfl⟩
                 simp [k8]
                ·simp [k1] at hg137
               ·simp [ints_len] at hg133; omega
              ·simp at hg126
             ·simp [k6] at hg118
            ·simp at hg111
           ·simp [k5] at hg106
          ·simp [k4] at hg101
         ·simp [k3] at hg96
        ·simp [k2] at hg93

end Go.Proofs.Ytcepgfcolmdnoaa.E
