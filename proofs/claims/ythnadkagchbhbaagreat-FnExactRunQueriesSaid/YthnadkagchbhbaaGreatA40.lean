/- Walks through functions, by program out of the session's annotations. -/
import Derived.Test.YthnadkagchbhbaaGreatA39
namespace Go.Proofs.YthnadkagchbhbaaGreat.E
open Go Go.RowKit Go.Proofs
set_option linter.unusedVariables false
set_option linter.unusedSimpArgs false

def crkAtK (c : Crk) (v : Int) : Bool := isCrk c && bnd v
def crkAtC (c : Crk) (v : Int) : Crk := if crkAtK c v = true then (crackC c v).1 else c
def crkAtS (c : Crk) (v : Int) : List (Int × Int) := if crkAtK c v = true then (crackC c v).2 else []
/-- The result of a crack. -/
def crkT (c : Crk) (v : Int) : AV := .tup [(true, crkO 0 (crackC c v).1), (false, [.sl 3 0 (crackC c v).2.length (crackC c v).2.length])]

theorem e_tidy_A40_0 {P : Program} {N : Nat} {s : Slots} {R : List Res} {Q : Exit → Slots → List Res → Prop} {c : Code} (keep : List Nat) {base : Slots} {R' : List Res} (h : ECode P N c base R' Q) (hb : keepOf s keep = base := by simp only [E.keepOf, E.get, E.ev, E.cv, E.fill', E.fill, E.slotsOf, Res.sh, AC.sh, AC.sh.shs, AV.sh, E.splice, List.map_cons, List.map_nil, List.cons_append, List.nil_append, List.append_nil, List.length_cons, List.length_nil, List.take_zero, List.drop_zero, List.take_succ_cons, List.drop_succ_cons, List.drop_nil, List.take_nil, List.set_cons_zero, List.set_cons_succ, Nat.zero_add, Nat.add_zero, Nat.reduceAdd, Nat.reduceSub, reduceIte, Nat.reduceEqDiff, E.back, E.backR, E.ix, Res.un, AC.un, AC.un.uns, AV.un, E.un, Option.map_some, Option.map_none, Option.getD_some, List.getElem?_cons_zero, List.getElem?_cons_succ, List.getElem?_nil, crkR, crkO]; rfl) (hR : R = R' := by (try simp only [E.keepOf, E.get, E.ev, E.cv, E.fill', E.fill, E.slotsOf, Res.sh, AC.sh, AC.sh.shs, AV.sh, E.splice, List.map_cons, List.map_nil, List.cons_append, List.nil_append, List.append_nil, List.length_cons, List.length_nil, List.take_zero, List.drop_zero, List.take_succ_cons, List.drop_succ_cons, List.drop_nil, List.take_nil, List.set_cons_zero, List.set_cons_succ, Nat.zero_add, Nat.add_zero, Nat.reduceAdd, Nat.reduceSub, reduceIte, Nat.reduceEqDiff, E.back, E.backR, E.ix, Res.un, AC.un, AC.un.uns, AV.un, E.un, Option.map_some, Option.map_none, Option.getD_some, List.getElem?_cons_zero, List.getElem?_cons_succ, List.getElem?_nil, crkR, crkO]); rfl) : ECode P N c s R Q := E_tidy keep hb hR h

set_option maxRecDepth 20000 in
set_option maxHeartbeats 2000000 in
theorem c_impl_crack (c : Crk) (v : Int) (hc : isCrk c = true) (hv : bnd v = true) : EFn Tryz.prog 71 [.agg (crkC c), .c (.sc (.int .i64 v))] [] (fun r S => r = crkT c v ∧ S = crkR 3 76 (crackC c v).1 ++ [.row 120 2 (pairs (crackC c v).2)]) := by
 refine E_fn Tryz.func71 rfl (Nat.le_of_ble_eq_true rfl) ?_
 have hl := crk_lens hc
 have hpb := pc_bounds hc v
 obtain ⟨a, ha⟩ : ∃ a : Nat, pcFrom c.piv v = a := ⟨_, (Int.toNat_of_nonneg hpb.1).symm⟩
 obtain ⟨e, he⟩ : ∃ e : Nat, pcTo c.piv c.vals.length v = e := ⟨_, (Int.toNat_of_nonneg (by omega)).symm⟩
 have hpc : pcT c v = .tup [(false, [.sc (.int .i64 (a : Int))]), (false, [.sc (.int .i64 (e : Int))])] := by rw [pcT, ha, he]
 have hpp : partC c v = partS c.vals v a e [] := by rw [partC, ha, he]; rfl
 rw [ha, he] at hpb
 have hae : a ≤ e ∧ e ≤ c.vals.length := by omega
 refine E_seq ?_
 refine E_region' (L := [0, 1, 2]) rfl ?_
 refine x_box rfl rfl rfl rfl rfl ?_
 refine x_alloc rfl rfl rfl rfl za_29 ?_
 refine xas ?_
 refine EOps_nil ?_
 refine E_seq ?_
 refine E_seq ?_
 refine e_tidy_A40_0 [0, 1, 2, 4, 5] ?_
 refine E_region' (L := [0, 1, 2]) rfl ?_
 refine x_light rfl rfl rfl (L_load rfl (by first | exact d_bp ty_29 | exact ld_rp ty_29 rfl | exact d_ep ty_29)) ?_
 refine xmv ?_
 refine x_call rfl rfl rfl rfl rfl ca_69 (c_impl_isPivot c v (by omega)) ?_
 rintro r S ⟨rfl, rfl⟩
 refine EOps_nil ?_
 refine E_cond rfl (fun hc14 => ?_) (fun hc14 => ?_)
 ·have hcr : crackC c v = (c, []) := by rw [crackC, if_pos (by simpa using hc14)]
  refine E_seq ?_
  refine e_tidy_A40_0 [0, 1, 2, 4, 5, 14] ?_
  refine E_region' (L := [0, 1, 2, 3]) rfl ?_
  refine x_light rfl rfl rfl (L_load rfl (by first | exact d_bp ty_29 | exact ld_rp ty_29 rfl | exact d_ep ty_29)) ?_
  refine x_call rfl rfl rfl rfl rfl ca_80 (c_impl_copyCracker c ⟨by omega, by omega, by omega⟩) ?_
  rintro r S ⟨rfl, rfl⟩
  refine EOps_go rfl rfl (EOp_store rfl rfl rfl (by first | exact s_bp ty_29 | exact s_ep ty_29) ?_)
  refine xas ?_
  refine EOps_nil ?_
  refine E_ghostS 5 120 2 rfl (by decide) ?_
  refine E_ret ?_
  refine ⟨_, [2, 3, 4, 5], rfl, rfl, ?_, ?_⟩
  ·rw [crkT, hcr]; rfl
  ·rw [hcr]; rfl
 ·have hp : isPv c.piv v = false := by simpa using hc14
  have hcr : crackC c v = (withPv (swaped c (partC c v).1) (v, (partC c v).2), (partC c v).1) := by rw [crackC, if_neg (by simp [hp])]
  obtain ⟨at_, k1, k2, k3, k4, k5, k6, k7⟩ := crack_ok hc hv hp
  have hswi : swIn 0 c.vals.length (partC c v).1 := fun s hs => by have := k4 s hs; rw [ha, he] at this; omega
  rw [ha, he] at k5
  rw [hpp] at hcr hswi k5
  refine E_skip ?_
  refine E_seq ?_
  refine e_tidy_A40_0 [0, 1, 2, 4, 5, 14] ?_
  refine E_region' (L := [0, 1, 2, 3, 4, 5, 6, 7]) rfl ?_
  refine x_light rfl rfl rfl (L_load rfl (by first | exact d_bp ty_29 | exact ld_rp ty_29 rfl | exact d_ep ty_29)) ?_
  refine xmv ?_
  refine x_call rfl rfl rfl rfl rfl ca_70 (c_impl_piece c v ⟨by omega, by omega⟩) ?_
  rintro r S ⟨rfl, rfl⟩
  rw [hpc]
  refine xmv ?_
  refine x_pure rfl rfl rfl (L_extract rfl rfl) ?_
  refine x_pure rfl rfl rfl (L_extract rfl rfl) ?_
  refine xas ?_
  refine xas ?_
  refine EOps_nil ?_
  refine E_seq ?_
  refine e_tidy_A40_0 [0, 1, 2, 4, 5, 6, 7, 14] ?_
  refine E_region' (L := [0, 1, 2, 3, 4, 5, 6, 7, 8, 9, 10]) rfl ?_
  refine x_pure rfl rfl rfl (l_field rfl fo_29_0) ?_
  refine x_light rfl rfl rfl (L_load rfl (by first | exact d_bp ty_22 | exact ld_rp ty_22 rfl | exact d_ep ty_22)) ?_
  refine xmv ?_
  refine xmv ?_
  refine xmv ?_
  refine x_call rfl rfl rfl rfl rfl ca_81 (c_impl_Partition c.vals a e v hae.1 hae.2 (by omega)) ?_
  rintro r S ⟨rfl, rfl⟩
  generalize partS c.vals v a e [] = P at *
  obtain ⟨sw, z⟩ := P
  dsimp only at hcr hswi k5
  refine xmv ?_
  refine x_pure rfl rfl rfl (L_extract rfl rfl) ?_
  refine x_pure rfl rfl rfl (L_extract rfl rfl) ?_
  refine xas ?_
  refine xas ?_
  refine EOps_nil ?_
  refine E_seq ?_
  refine e_tidy_A40_0 [0, 1, 2, 4, 5, 6, 7, 8, 9, 14] ?_
  refine E_region' (L := [0, 1, 2, 3, 4, 5, 6, 7, 8]) rfl ?_
  refine x_light rfl rfl rfl (L_load rfl (by first | exact d_bp ty_29 | exact ld_rp ty_29 rfl | exact d_ep ty_29)) ?_
  refine xmv ?_
  refine x_call rfl rfl rfl rfl rfl ca_82 (c_impl_ApplySwaps c sw ⟨by omega, by omega, by omega⟩ hl.2.1 (by omega) hswi) ?_
  rintro r S ⟨rfl, rfl⟩
  refine xmv ?_
  refine x_pure rfl rfl rfl (L_extract rfl rfl) ?_
  refine x_pure rfl rfl rfl (L_extract rfl rfl) ?_
  refine x_alloc rfl rfl rfl rfl za_29 ?_
  refine EOps_go rfl rfl (EOp_store rfl rfl rfl (by first | exact s_bp ty_29 | exact s_ep ty_29) ?_)
  refine xas ?_
  refine EOps_nil ?_
  refine E_seq ?_
  refine e_tidy_A40_0 [0, 1, 2, 4, 5, 6, 7, 8, 9, 10, 14] ?_
  refine E_region' (L := [0, 1, 2, 3, 4, 5, 6, 7]) rfl ?_
  refine x_light rfl rfl rfl (L_load rfl (by first | exact d_bp ty_29 | exact ld_rp ty_29 rfl | exact d_ep ty_29)) ?_
  refine xmv ?_
  refine xmv ?_
  refine x_pure rfl rfl rfl (L_build rfl bd_76 rfl rfl) ?_
  refine x_call rfl rfl rfl rfl rfl ca_83 (c_impl_withPivot (swaped c sw) (v, z) ⟨by simp only [swaped, swps_len]; omega, by simp only [swaped, swps_len]; omega, by simp only [swaped]; omega⟩) ?_
  rintro r S ⟨rfl, rfl⟩
  refine xmv ?_
  refine EOps_go rfl rfl (EOp_store rfl rfl rfl (by first | exact s_bp ty_29 | exact s_ep ty_29) ?_)
  refine xas ?_
  refine EOps_nil ?_
  refine E_ret ?_
  refine ⟨_, [7, 8, 9, 2], rfl, rfl, ?_, ?_⟩
  ·rw [crkT, hcr]; rfl
  ·rw [hcr]; rfl

set_option maxRecDepth 20000 in
set_option maxHeartbeats 2000000 in
theorem c_spec_CrackAt (c : Crk) (v : Int) (hb : c.vals.length ≤ 1048576 ∧ c.rows.length ≤ 1048576 ∧ c.piv.length ≤ 1048576) : EFn Tryz.prog 78 [.agg (crkC c), .c (.sc (.int .i64 v))] [] (fun r S => r = .tup [(true, crkO 0 (crkAtC c v)), (false, [.sl 3 0 (crkAtS c v).length (crkAtS c v).length]), (false, [.sc (.bool (crkAtK c v))])] ∧ S = crkR 3 76 (crkAtC c v) ++ [.row 120 2 (pairs (crkAtS c v))]) := by
 refine E_fn Tryz.func78 rfl (Nat.le_of_ble_eq_true rfl) ?_
 refine E_seq ?_
 refine E_region' (L := [0, 1, 2, 3]) rfl ?_
 refine x_box rfl rfl rfl rfl rfl ?_
 refine x_alloc rfl rfl rfl rfl za_29 ?_
 refine xas ?_
 refine xas ?_
 refine EOps_nil ?_
 refine E_seq ?_
 refine E_seq ?_
 refine e_tidy_A40_0 [0, 1, 2, 4, 5, 6] ?_
 refine E_region' (L := [0, 1, 2, 3, 4, 5, 6, 7]) rfl ?_
 refine x_light rfl rfl rfl (L_load rfl (by first | exact d_bp ty_29 | exact ld_rp ty_29 rfl | exact d_ep ty_29)) ?_
 refine x_call rfl rfl rfl rfl rfl ca_36 (c_spec_IsCracker c) ?_
 rintro r S ⟨rfl, rfl⟩
 refine x_pure rfl rfl rfl (L_not rfl rfl) ?_
 refine xmv ?_
 refine EOps_split 20 (b := _) rfl (fun hg20 => ?_) (fun hg20 => ?_)
 ·refine x_skip rfl rfl rfl ?_
  refine x_skip rfl rfl rfl ?_
  refine x_skip rfl rfl rfl ?_
  refine x_pure rfl rfl rfl (L_pick rfl rfl) ?_
  refine EOps_nil ?_
  refine E_cond rfl (fun hc24 => ?_) (fun hc24 => ?_)
  ·have hk : crkAtK c v = false := by
    simp only [crkAtK, bnd]
    simp_all
   have hcc : crkAtC c v = c ∧ crkAtS c v = [] := by simp [crkAtC, crkAtS, hk]
   refine E_seq ?_
   refine e_tidy_A40_0 [0, 1, 2, 4, 5, 6, 24] ?_
   refine E_region' (L := [0, 1, 2, 3, 4, 5]) rfl ?_
   refine x_light rfl rfl rfl (L_load rfl (by first | exact d_bp ty_29 | exact ld_rp ty_29 rfl | exact d_ep ty_29)) ?_
   refine x_call rfl rfl rfl rfl rfl ca_37 (c_spec_l4Copy c hb) ?_
   rintro r S ⟨rfl, rfl⟩
   refine EOps_go rfl rfl (Heavy.op (H_bslice rfl rfl (by decide) sl_99 ty_120 za_120 ⟨rfl, by decide⟩ (by decide) rfl rfl rfl rfl ?_))
   refine EOps_go rfl rfl (EOp_store rfl rfl rfl (by first | exact s_bp ty_29 | exact s_ep ty_29) ?_)
   refine xas ?_
   refine xas ?_
   refine EOps_nil ?_
   refine E_ret ?_
   refine ⟨_, [2, 3, 4, 5], rfl, rfl, ?_, ?_⟩
   ·rw [hk, hcc.1, hcc.2]; rfl
   ·rw [hcc.1, hcc.2]; rfl
  ·exact Bool.noConfusion (hc24 : true = false)
 ·refine xmv ?_
  refine x_call rfl rfl rfl rfl rfl ca_34 (c_spec_l1In v (-1000) 1000) ?_
  rintro r S ⟨rfl, rfl⟩
  refine x_pure rfl rfl rfl (L_not rfl rfl) ?_
  refine x_pure rfl rfl rfl (L_pick rfl rfl) ?_
  refine EOps_nil ?_
  refine E_cond rfl (fun hc24 => ?_) (fun hc24 => ?_)
  ·have hk : crkAtK c v = false := by
    simp only [crkAtK, bnd]
    simp_all
   have hcc : crkAtC c v = c ∧ crkAtS c v = [] := by simp [crkAtC, crkAtS, hk]
   refine E_seq ?_
   refine e_tidy_A40_0 [0, 1, 2, 4, 5, 6, 24] ?_
   refine E_region' (L := [0, 1, 2, 3, 4, 5]) rfl ?_
   refine x_light rfl rfl rfl (L_load rfl (by first | exact d_bp ty_29 | exact ld_rp ty_29 rfl | exact d_ep ty_29)) ?_
   refine x_call rfl rfl rfl rfl rfl ca_37 (c_spec_l4Copy c hb) ?_
   rintro r S ⟨rfl, rfl⟩
   refine EOps_go rfl rfl (Heavy.op (H_bslice rfl rfl (by decide) sl_99 ty_120 za_120 ⟨rfl, by decide⟩ (by decide) rfl rfl rfl rfl ?_))
   refine EOps_go rfl rfl (EOp_store rfl rfl rfl (by first | exact s_bp ty_29 | exact s_ep ty_29) ?_)
   refine xas ?_
   refine xas ?_
   refine EOps_nil ?_
   refine E_ret ?_
   refine ⟨_, [2, 3, 4, 5], rfl, rfl, ?_, ?_⟩
   ·rw [hk, hcc.1, hcc.2]; rfl
   ·rw [hcc.1, hcc.2]; rfl
  ·have hk : crkAtK c v = true := by
    simp only [crkAtK, bnd]
    simp_all
   have hcc : crkAtC c v = (crackC c v).1 ∧ crkAtS c v = (crackC c v).2 := by simp [crkAtC, crkAtS, hk]
   have hcv : isCrk c = true ∧ bnd v = true := by simpa [crkAtK] using hk
   have hl := crk_lens hcv.1
   have hpb := pc_bounds hcv.1 v
   obtain ⟨a, ha⟩ : ∃ a : Nat, pcFrom c.piv v = a := ⟨_, (Int.toNat_of_nonneg hpb.1).symm⟩
   obtain ⟨e, he⟩ : ∃ e : Nat, pcTo c.piv c.vals.length v = e := ⟨_, (Int.toNat_of_nonneg (by omega)).symm⟩
   have hpc : pieceT c v = .tup [(false, [.sc (.int .i64 (a : Int))]), (false, [.sc (.int .i64 (e : Int))])] := by rw [pieceT, if_pos hcv, pcT, ha, he]
   have hpp : partC c v = partS c.vals v a e [] := by rw [partC, ha, he]; rfl
   rw [ha, he] at hpb
   have hae : a ≤ e ∧ e ≤ c.vals.length := by omega
   refine E_skip ?_
   refine E_seq ?_
   refine E_seq ?_
   refine e_tidy_A40_0 [0, 1, 2, 4, 5, 6, 24] ?_
   refine E_region' (L := [0, 1, 2, 3, 4, 5, 6, 7]) rfl ?_
   refine x_light rfl rfl rfl (L_load rfl (by first | exact d_bp ty_29 | exact ld_rp ty_29 rfl | exact d_ep ty_29)) ?_
   refine xmv ?_
   refine x_call rfl rfl rfl rfl rfl ca_39 (c_spec_FindPivot c v (by omega)) ?_
   rintro r S ⟨rfl, rfl⟩
   refine xmv ?_
   refine x_pure rfl rfl rfl (L_extract rfl rfl) ?_
   refine x_pure rfl rfl rfl (L_extract rfl rfl) ?_
   refine xas ?_
   refine xas ?_
   refine EOps_nil ?_
   refine E_seq ?_
   refine E_region' (L := [0]) rfl ?_
   refine xmv ?_
   refine EOps_nil ?_
   refine E_cond rfl (fun hc34 => ?_) (fun hc34 => ?_)
   ·have hcr : crackC c v = (c, []) := by rw [crackC, if_pos (by simpa using hc34)]
    refine E_seq ?_
    refine e_tidy_A40_0 [0, 1, 2, 4, 5, 6, 8, 24, 34] ?_
    refine E_region' (L := [0, 1, 2, 3, 4, 5]) rfl ?_
    refine x_light rfl rfl rfl (L_load rfl (by first | exact d_bp ty_29 | exact ld_rp ty_29 rfl | exact d_ep ty_29)) ?_
    refine x_call rfl rfl rfl rfl rfl ca_37 (c_spec_l4Copy c hb) ?_
    rintro r S ⟨rfl, rfl⟩
    refine EOps_go rfl rfl (Heavy.op (H_bslice rfl rfl (by decide) sl_99 ty_120 za_120 ⟨rfl, by decide⟩ (by decide) rfl rfl rfl rfl ?_))
    refine EOps_go rfl rfl (EOp_store rfl rfl rfl (by first | exact s_bp ty_29 | exact s_ep ty_29) ?_)
    refine xas ?_
    refine xas ?_
    refine EOps_nil ?_
    refine E_ret ?_
    refine ⟨_, [2, 3, 4, 5], rfl, rfl, ?_, ?_⟩
    ·rw [hk, hcc.1, hcc.2, hcr]; rfl
    ·rw [hcc.1, hcc.2, hcr]; rfl
   ·have hp : isPv c.piv v = false := by simpa using hc34
    have hcr : crackC c v = (withPv (swaped c (partC c v).1) (v, (partC c v).2), (partC c v).1) := by rw [crackC, if_neg (by simp [hp])]
    obtain ⟨at_, k1, k2, k3, k4, k5, k6, k7⟩ := crack_ok hcv.1 hcv.2 hp
    have hswi : swIn 0 c.vals.length (partC c v).1 := fun s hs => by have := k4 s hs; rw [ha, he] at this; omega
    rw [ha, he] at k5
    rw [hpp] at hcr hswi k5 k6 k7
    refine E_skip ?_
    refine E_seq ?_
    refine e_tidy_A40_0 [0, 1, 2, 4, 5, 6, 8, 24, 34] ?_
    refine E_region' (L := [0, 1, 2, 3, 4, 5, 6, 7]) rfl ?_
    refine x_light rfl rfl rfl (L_load rfl (by first | exact d_bp ty_29 | exact ld_rp ty_29 rfl | exact d_ep ty_29)) ?_
    refine xmv ?_
    refine x_call rfl rfl rfl rfl rfl ca_61 (c_spec_PieceOf c v (by omega)) ?_ (hq := by rintro r S ⟨rfl, rfl⟩; rw [hpc]; exact ⟨rfl, rfl⟩)
    rintro r S ⟨rfl, rfl⟩
    rw [hpc]
    refine xmv ?_
    refine x_pure rfl rfl rfl (L_extract rfl rfl) ?_
    refine x_pure rfl rfl rfl (L_extract rfl rfl) ?_
    refine xas ?_
    refine xas ?_
    refine EOps_nil ?_
    refine E_seq ?_
    refine e_tidy_A40_0 [0, 1, 2, 4, 5, 6, 8, 9, 10, 24, 34] ?_
    refine E_region' (L := [0, 1, 2, 3, 4, 5, 6, 7, 8, 9, 10]) rfl ?_
    refine x_pure rfl rfl rfl (l_field rfl fo_29_0) ?_
    refine x_light rfl rfl rfl (L_load rfl (by first | exact d_bp ty_22 | exact ld_rp ty_22 rfl | exact d_ep ty_22)) ?_
    refine xmv ?_
    refine xmv ?_
    refine xmv ?_
    refine x_call rfl rfl rfl rfl rfl ca_89 (c_spec_Partition c.vals a e v hae.1 hae.2 (by omega)) ?_
    rintro r S ⟨rfl, rfl⟩
    generalize partS c.vals v a e [] = P at *
    obtain ⟨sw, z⟩ := P
    dsimp only at hcr hswi k5 k6 k7
    refine xmv ?_
    refine x_pure rfl rfl rfl (L_extract rfl rfl) ?_
    refine x_pure rfl rfl rfl (L_extract rfl rfl) ?_
    refine xas ?_
    refine xas ?_
    refine EOps_nil ?_
    refine E_seq ?_
    refine e_tidy_A40_0 [0, 1, 2, 4, 5, 6, 8, 9, 10, 11, 12, 24, 34] ?_
    refine E_region' (L := [0, 1, 2, 3, 4, 5, 6, 7, 8]) rfl ?_
    refine x_light rfl rfl rfl (L_load rfl (by first | exact d_bp ty_29 | exact ld_rp ty_29 rfl | exact d_ep ty_29)) ?_
    refine xmv ?_
    refine x_call rfl rfl rfl rfl rfl ca_90 (c_spec_ApplySwaps c sw ⟨by omega, by omega, by omega⟩ hl.2.1 (by omega) hswi) ?_
    rintro r S ⟨rfl, rfl⟩
    refine xmv ?_
    refine x_pure rfl rfl rfl (L_extract rfl rfl) ?_
    refine x_pure rfl rfl rfl (L_extract rfl rfl) ?_
    refine x_alloc rfl rfl rfl rfl za_29 ?_
    refine EOps_go rfl rfl (EOp_store rfl rfl rfl (by first | exact s_bp ty_29 | exact s_ep ty_29) ?_)
    refine xas ?_
    refine EOps_nil ?_
    refine E_seq ?_
    refine e_tidy_A40_0 [0, 1, 2, 4, 5, 6, 8, 9, 10, 11, 12, 13, 24, 34] ?_
    refine E_region' (L := [0, 1, 2, 3, 4, 5, 6, 7, 8, 9, 10]) rfl ?_
    refine x_light rfl rfl rfl (L_load rfl (by first | exact d_bp ty_29 | exact ld_rp ty_29 rfl | exact d_ep ty_29)) ?_
    refine xmv ?_
    refine xmv ?_
    refine x_pure rfl rfl rfl (L_build rfl bd_76 rfl rfl) ?_
    refine x_call rfl rfl rfl rfl rfl ca_91 (c_spec_AddPivot (swaped c sw) (v, z) ⟨by simp only [swaped, swps_len]; omega, by simp only [swaped, swps_len]; omega, by simp only [swaped]; omega⟩ k6 k7) ?_
    rintro r S ⟨rfl, rfl⟩
    refine xmv ?_
    refine x_pure rfl rfl rfl (L_extract rfl rfl) ?_
    refine x_pure rfl rfl rfl (L_extract rfl rfl) ?_
    refine x_alloc rfl rfl rfl rfl za_29 ?_
    refine EOps_go rfl rfl (EOp_store rfl rfl rfl (by first | exact s_bp ty_29 | exact s_ep ty_29) ?_)
    refine xas ?_
    refine EOps_nil ?_
    refine E_seq ?_
    refine E_region' (L := [0, 1, 2, 3, 4]) rfl ?_
    refine x_light rfl rfl rfl (L_load rfl (by first | exact d_bp ty_29 | exact ld_rp ty_29 rfl | exact d_ep ty_29)) ?_
    refine xmv ?_
    refine EOps_go rfl rfl (EOp_store rfl rfl rfl (by first | exact s_bp ty_29 | exact s_ep ty_29) ?_)
    refine xas ?_
    refine xas ?_
    refine EOps_nil ?_
    refine E_ret ?_
    refine ⟨_, [7, 8, 9, 2], rfl, rfl, ?_, ?_⟩
    ·rw [hk, hcc.1, hcc.2, hcr]; rfl
    ·rw [hcc.1, hcc.2, hcr]; rfl

end Go.Proofs.YthnadkagchbhbaaGreat.E
