/- Walks through functions, by program out of the session's annotations. -/
import Derived.Test.YtcepgfcolmdnoaaA132
import Derived.Test.YtcepgfcolmdnoaaA122
import Derived.Test.YtcepgfcolmdnoaaA57
namespace Go.Proofs.Ytcepgfcolmdnoaa.E
open Go Go.RowKit Go.Proofs
set_option linter.unusedVariables false
set_option linter.unusedSimpArgs false

theorem e_tidy_A133_0 {P : Program} {N : Nat} {s : Slots} {R : List Res} {Q : Exit → Slots → List Res → Prop} {c : Code} (keep : List Nat) {base : Slots} {R' : List Res} (h : ECode P N c base R' Q) (hb : keepOf s keep = base := by simp only [E.keepOf, E.get, E.ev, E.cv, E.fill', E.fill, E.slotsOf, Res.sh, AC.sh, AC.sh.shs, AV.sh, E.splice, List.map_cons, List.map_nil, List.cons_append, List.nil_append, List.append_nil, List.length_cons, List.length_nil, List.take_zero, List.drop_zero, List.take_succ_cons, List.drop_succ_cons, List.drop_nil, List.take_nil, List.set_cons_zero, List.set_cons_succ, Nat.zero_add, Nat.add_zero, Nat.reduceAdd, Nat.reduceSub, reduceIte, Nat.reduceEqDiff, E.back, E.backR, E.ix, Res.un, AC.un, AC.un.uns, AV.un, E.un, Option.map_some, Option.map_none, Option.getD_some, List.getElem?_cons_zero, List.getElem?_cons_succ, List.getElem?_nil, crkR, crkO, mpO, mpR]; rfl) (hR : R = R' := by (try simp only [E.keepOf, E.get, E.ev, E.cv, E.fill', E.fill, E.slotsOf, Res.sh, AC.sh, AC.sh.shs, AV.sh, E.splice, List.map_cons, List.map_nil, List.cons_append, List.nil_append, List.append_nil, List.length_cons, List.length_nil, List.take_zero, List.drop_zero, List.take_succ_cons, List.drop_succ_cons, List.drop_nil, List.take_nil, List.set_cons_zero, List.set_cons_succ, Nat.zero_add, Nat.add_zero, Nat.reduceAdd, Nat.reduceSub, reduceIte, Nat.reduceEqDiff, E.back, E.backR, E.ix, Res.un, AC.un, AC.un.uns, AV.un, E.un, Option.map_some, Option.map_none, Option.getD_some, List.getElem?_cons_zero, List.getElem?_cons_succ, List.getElem?_nil, crkR, crkO, mpO, mpR]); rfl) : ECode P N c s R Q := E_tidy keep hb hR h

set_option maxRecDepth 20000 in
set_option maxHeartbeats 8000000 in
theorem c_laws_FnMapCracks (l : List Int) (hb0 : ∀ x ∈ l, 0 ≤ x ∧ x ≤ 255) : EFn Try.prog 3 [.c (.ro (bytes l))] [] (fun r S => r = .c (.sc (.bool true)) ∧ S = []) := by
 refine E_fn Try.func3 rfl (Nat.le_of_ble_eq_true rfl) ?_
 refine E_seq ?_
 refine E_region' (L := [0]) rfl ?_
 refine xas ?_
 refine EOps_nil ?_
 refine E_seq ?_
 refine E_seq ?_
 refine e_tidy_A133_0 [0, 2] ?_
 refine E_region' (L := [0, 1]) rfl ?_
 refine xmv ?_
 refine x_call rfl rfl rfl rfl rfl ca_10 (c_laws_big l) ?_
 rintro r S ⟨rfl, rfl⟩
 refine EOps_nil ?_
 refine E_cond rfl (fun hc13 => ?_) (fun hc13 => ?_)
 ·refine E_seq ?_
  refine E_region' (L := [0]) rfl ?_
  refine xas ?_
  refine EOps_nil ?_
  refine E_ret ?_
  exact ⟨_, [], rfl, rfl, rfl, rfl⟩
 ·have hb : byL l := ⟨hb0, by simp at hc13; omega⟩
  refine E_skip ?_
  refine E_seq ?_
  refine e_tidy_A133_0 [0, 2, 13] ?_
  refine E_region' (L := [0, 1, 2, 3, 4, 5, 6, 7]) rfl ?_
  refine xmv ?_
  refine x_call rfl rfl rfl rfl rfl ca_11 (c_spec_DrawCrackMap l hb) ?_ (hq := by rintro r S ⟨_, _, ⟨rfl, rfl⟩, _, _, _, _⟩; exact ⟨rfl, rfl⟩)
  rintro r S ⟨m, v, ⟨rfl, rfl⟩, hmv, hmr, hmp, hmt⟩
  refine xmv ?_
  refine x_pure rfl rfl rfl (L_extract rfl rfl) ?_
  refine x_pure rfl rfl rfl (L_extract rfl rfl) ?_
  refine x_alloc rfl rfl rfl rfl za_29 ?_
  refine EOps_go rfl rfl (EOp_store rfl rfl rfl (by first | exact s_bp ty_29 | exact s_ep ty_29) ?_)
  refine xas ?_
  refine EOps_nil ?_
  refine E_seq ?_
  refine e_tidy_A133_0 [0, 2, 3, 4, 13] ?_
  refine E_region' (L := [0, 1, 2, 3, 4, 5, 6, 7, 8]) rfl ?_
  refine x_light rfl rfl rfl (L_load rfl (by first | exact d_bp ty_29 | exact ld_rp ty_29 rfl | exact d_ep ty_29)) ?_
  refine xmv ?_
  refine x_call rfl rfl rfl rfl rfl ca_12 (c_impl_CrackMap m v (by omega)) ?_
  rintro r S ⟨rfl, rfl⟩
  refine xmv ?_
  refine x_pure rfl rfl rfl (L_extract rfl rfl) ?_
  refine x_pure rfl rfl rfl (L_extract rfl rfl) ?_
  refine x_alloc rfl rfl rfl rfl za_29 ?_
  refine EOps_go rfl rfl (EOp_store rfl rfl rfl (by first | exact s_bp ty_29 | exact s_ep ty_29) ?_)
  refine xas ?_
  refine EOps_nil ?_
  refine E_seq ?_
  refine e_tidy_A133_0 [0, 2, 3, 4, 5, 6, 13] ?_
  refine E_region' (L := [0, 1, 2, 3, 4, 5, 6, 7, 8]) rfl ?_
  refine x_light rfl rfl rfl (L_load rfl (by first | exact d_bp ty_29 | exact ld_rp ty_29 rfl | exact d_ep ty_29)) ?_
  refine xmv ?_
  refine x_call rfl rfl rfl rfl rfl ca_13 (c_spec_CrackMap m v (by omega)) ?_
  rintro r S ⟨rfl, rfl⟩
  refine xmv ?_
  refine x_pure rfl rfl rfl (L_extract rfl rfl) ?_
  refine x_pure rfl rfl rfl (L_extract rfl rfl) ?_
  refine x_alloc rfl rfl rfl rfl za_29 ?_
  refine EOps_go rfl rfl (EOp_store rfl rfl rfl (by first | exact s_bp ty_29 | exact s_ep ty_29) ?_)
  refine xas ?_
  refine EOps_nil ?_
  refine E_seq ?_
  refine E_seq ?_
  refine e_tidy_A133_0 [0, 2, 3, 4, 5, 6, 7, 8, 13] ?_
  refine E_region' (L := [0, 1, 2, 3, 4, 5, 6, 7, 8]) rfl ?_
  refine xmv ?_
  refine xmv ?_
  refine x_pure rfl rfl rfl (L_binB rfl bo_4 rfl rfl rfl) ?_
  refine xmv ?_
  refine EOps_split 34 (b := _) rfl (fun hg34 => ?_) (fun hg34 => ?_)
  ·simp at hg34
  ·refine x_light rfl rfl rfl (L_load rfl (by first | exact d_bp ty_29 | exact ld_rp ty_29 rfl | exact d_ep ty_29)) ?_
   refine x_light rfl rfl rfl (L_load rfl (by first | exact d_bp ty_29 | exact ld_rp ty_29 rfl | exact d_ep ty_29)) ?_
   refine x_call rfl rfl rfl rfl rfl ca_14 (c_spec_EqualMaps (cmM m v) (cmM m v)) ?_
   rintro r S ⟨rfl, rfl⟩
   refine x_pure rfl rfl rfl (L_not rfl rfl) ?_
   refine x_pure rfl rfl rfl (L_pick rfl rfl) ?_
   refine EOps_nil ?_
   refine E_cond rfl (fun hc39 => ?_) (fun hc39 => ?_)
   ·simp at hc39
   ·refine E_skip ?_
    refine E_seq ?_
    refine E_seq ?_
    refine E_region' (L := [0, 1]) rfl ?_
    refine xmv ?_
    refine x_pure rfl rfl rfl (L_not rfl rfl) ?_
    refine EOps_nil ?_
    refine E_cond rfl (fun hc41 => ?_) (fun hc41 => ?_)
    ·have hk : cmK m v = false := by simpa using hc41
     have hM : cmM m v = m := by rw [cmM, hk]; rfl
     rw [hM]
     refine E_seq ?_
     refine e_tidy_A133_0 [0, 2, 3, 4, 5, 6, 7, 8, 13, 39, 41] ?_
     refine E_region' (L := [0, 1, 2, 3]) rfl ?_
     refine x_light rfl rfl rfl (L_load rfl (by first | exact d_bp ty_29 | exact ld_rp ty_29 rfl | exact d_ep ty_29)) ?_
     refine x_light rfl rfl rfl (L_load rfl (by first | exact d_bp ty_29 | exact ld_rp ty_29 rfl | exact d_ep ty_29)) ?_
     refine x_call rfl rfl rfl rfl rfl ca_14 (c_spec_EqualMaps m m) ?_
     rintro r S ⟨rfl, rfl⟩
     refine xas ?_
     refine EOps_nil ?_
     refine E_ret ?_
     refine ⟨_, [], rfl, rfl, bool_eq ?_, rfl⟩
     simp
    ·have hk : cmK m v = true := by simpa using hc41
     have hcb : isMap m = true ∧ bnd v = true := by simpa [cmK] using hk
     have hM : cmM m v = crkMp m v := by rw [cmM, if_pos hk]
     have hMo := crkMp_ok hcb.1 hcb.2
     have hka : crkAtK m.c v = true := by simp [crkAtK, (map_parts hcb.1).1, hcb.2]
     have hMc : crkAtC m.c v = (crkMp m v).c := by rw [crkAtC, if_pos hka]; rfl
     have hMa : (crkMp m v).app = m.app := rfl
     rw [hM]
     generalize crkMp m v = M at *
     refine E_skip ?_
     refine E_seq ?_
     refine e_tidy_A133_0 [0, 2, 3, 4, 5, 6, 7, 8, 13, 39, 41] ?_
     refine E_region' (L := [0, 1, 2, 3, 4, 5, 6, 7, 8, 9, 10, 11]) rfl ?_
     refine x_pure rfl rfl rfl (l_field rfl fo_29_0) ?_
     refine x_light rfl rfl rfl (L_load rfl (by first | exact d_bp ty_27 | exact ld_rp ty_27 rfl | exact d_ep ty_27)) ?_
     refine xmv ?_
     refine x_call rfl rfl rfl rfl rfl ca_15 (c_spec_CrackAt m.c v (by omega)) ?_
     rintro r S ⟨rfl, rfl⟩
     rw [hMc]
     refine xmv ?_
     refine x_pure rfl rfl rfl (L_extract rfl rfl) ?_
     refine x_pure rfl rfl rfl (L_extract rfl rfl) ?_
     refine x_pure rfl rfl rfl (L_extract rfl rfl) ?_
     refine x_alloc rfl rfl rfl rfl za_27 ?_
     refine EOps_go rfl rfl (EOp_store rfl rfl rfl (by first | exact s_bp ty_27 | exact s_ep ty_27) ?_)
     refine xas ?_
     refine xas ?_
     refine EOps_nil ?_
     refine E_seq ?_
     refine e_tidy_A133_0 [0, 2, 3, 4, 5, 6, 7, 8, 9, 13, 39, 41] ?_
     refine E_region' (L := [0, 1, 2, 3, 4, 5, 6, 7, 8, 9, 10, 11, 12, 13, 14, 15]) rfl ?_
     refine x_pure rfl rfl rfl (l_field rfl fo_29_0) ?_
     refine x_light rfl rfl rfl (L_load rfl (by first | exact d_bp ty_27 | exact ld_rp ty_27 rfl | exact d_ep ty_27)) ?_
     refine x_light rfl rfl rfl (L_load rfl (by first | exact d_bp ty_27 | exact ld_rp ty_27 rfl | exact d_ep ty_27)) ?_
     refine x_call rfl rfl rfl rfl rfl ca_16 (c_spec_EqualCrackers M.c M.c) ?_
     rintro r S ⟨rfl, rfl⟩
     refine xmv ?_
     refine EOps_split 57 (b := _) rfl (fun hg57 => ?_) (fun hg57 => ?_)
     ·refine x_pure rfl rfl rfl (l_field rfl fo_29_2) ?_
      refine x_light rfl rfl rfl (L_load rfl (by first | exact d_bp ty_3 | exact ld_rp ty_3 rfl | exact d_ep ty_3)) ?_
      refine x_pure rfl rfl rfl (l_field rfl fo_29_2) ?_
      refine x_light rfl rfl rfl (L_load rfl (by first | exact d_bp ty_3 | exact ld_rp ty_3 rfl | exact d_ep ty_3)) ?_
      refine x_pure rfl rfl rfl (L_bin rfl rfl rfl rfl) ?_
      refine x_pure rfl rfl rfl (L_pick rfl rfl) ?_
      refine xmv ?_
      refine EOps_split 64 (b := _) rfl (fun hg64 => ?_) (fun hg64 => ?_)
      ·refine x_light rfl rfl rfl (L_load rfl (by first | exact d_bp ty_29 | exact ld_rp ty_29 rfl | exact d_ep ty_29)) ?_
       refine x_call rfl rfl rfl rfl rfl ca_17 (c_impl_IsMap M) ?_
       rintro r S ⟨rfl, rfl⟩
       refine x_pure rfl rfl rfl (L_pick rfl rfl) ?_
       refine xas ?_
       refine EOps_nil ?_
       refine E_ret ?_
       refine ⟨_, [], rfl, rfl, bool_eq ?_, rfl⟩
       simp [hMo]
      ·exfalso; simp [hMa] at hg64
     ·simp at hg57

end Go.Proofs.Ytcepgfcolmdnoaa.E
