/- Walks through functions, by program out of the session's annotations. -/
import Derived.Test.YthnadkagchbhbaaGreatA93
import Derived.Test.YthnadkagchbhbaaGreatA95
import Derived.Test.YthnadkagchbhbaaGreatA47
import Derived.Test.YthnadkagchbhbaaGreatF4
namespace Go.Proofs.YthnadkagchbhbaaGreat.E
open Go Go.RowKit Go.Proofs
set_option linter.unusedVariables false
set_option linter.unusedSimpArgs false

def sw1 (c : Crk) (s : Sett) (r : Int × Int) : Crk × Sett × List Qn := withW 0 c s r.1 []
def sw2 (c : Crk) (s : Sett) (r : Int × Int) : Crk × Sett × List Qn := withW 0 (sw1 c s r).1 (sw1 c s r).2.1 r.2 []
def swK (c : Crk) (s : Sett) (r : Int × Int) : Bool := isCrk c && isSet s && isRng r
def swC (c : Crk) (s : Sett) (r : Int × Int) : Crk := if swK c s r = true then (sw2 c s r).1 else c
def swS (c : Crk) (s : Sett) (r : Int × Int) : Sett := if swK c s r = true then (sw2 c s r).2.1 else s
def swR (c : Crk) (r : Int × Int) : List Int := rowsB c (fpAt c.piv r.1) (fpAt c.piv r.2)
def swL (c : Crk) (s : Sett) (r : Int × Int) : List Int := if swK c s r = true then swR (sw2 c s r).1 r else []
def swN (c : Crk) (s : Sett) (r : Int × Int) : Int := if swK c s r = true then totW (sw1 c s r).2.2 + totW (sw2 c s r).2.2 else 0
theorem swK_parts {c : Crk} {s : Sett} {r : Int × Int} (h : swK c s r = true) : isCrk c = true ∧ isSet s = true ∧ isRng r = true := by
 simp only [swK, Bool.and_eq_true] at h
 exact ⟨h.1.1, h.1.2, h.2⟩
structure SwOk (c : Crk) (s : Sett) (r : Int × Int) : Prop where
 c1 : isCrk (sw1 c s r).1 = true
 s1 : isSet (sw1 c s r).2.1 = true
 c2 : isCrk (sw2 c s r).1 = true
 s2 : isSet (sw2 c s r).2.1 = true
 l1 : okL (sw1 c s r).2.2 8001
 l2 : okL (sw2 c s r).2.2 8001
theorem sw_ok {c : Crk} {s : Sett} {r : Int × Int} (hc : isCrk c = true) (hs : isSet s = true) (hr : isRng r = true) : SwOk c s r := by
 obtain ⟨b1, b2⟩ := rng_bnd hr
 obtain ⟨h1, h2⟩ := with_ok (q := 0) (l := []) b1 hc hs
 obtain ⟨h3, h4⟩ := with_ok (q := 0) (l := []) b2 h1 h2
 exact ⟨h1, h2, h3, h4, withL_ok b1 hc hs (okL_nil 0), withL_ok b2 h1 h2 (okL_nil 0)⟩
theorem cw_of {c : Crk} {s : Sett} {v : Int} (hc : isCrk c = true) (hs : isSet s = true) (hv : bnd v = true) : cwC c s v = (withW 0 c s v []).1 ∧ cwS c s v = (withW 0 c s v []).2.1 ∧ cwN c s v = totW (withW 0 c s v []).2.2 := by
 simp [cwC, cwS, cwN, cwK, hc, hs, hv]

theorem g_tidy_A110_0 {P : Program} {N n : Nat} {s : Slots} {R : List Res} {Q : Exit → Slots → List Res → Prop} {c : Code} (keep : List Nat) {base : Slots} {R' : List Res} (h : GCode P N n c base R' Q) (hb : keepOf s keep = base := by simp only [E.keepOf, E.get, E.ev, E.cv, E.fill', E.fill, E.slotsOf, Res.sh, AC.sh, AC.sh.shs, AV.sh, E.splice, List.map_cons, List.map_nil, List.cons_append, List.nil_append, List.append_nil, List.length_cons, List.length_nil, List.take_zero, List.drop_zero, List.take_succ_cons, List.drop_succ_cons, List.drop_nil, List.take_nil, List.set_cons_zero, List.set_cons_succ, Nat.zero_add, Nat.add_zero, Nat.reduceAdd, Nat.reduceSub, reduceIte, Nat.reduceEqDiff, E.back, E.backR, E.ix, Res.un, AC.un, AC.un.uns, AV.un, E.un, Option.map_some, Option.map_none, Option.getD_some, List.getElem?_cons_zero, List.getElem?_cons_succ, List.getElem?_nil, crkR, crkO]; rfl) (hR : R = R' := by (try simp only [E.keepOf, E.get, E.ev, E.cv, E.fill', E.fill, E.slotsOf, Res.sh, AC.sh, AC.sh.shs, AV.sh, E.splice, List.map_cons, List.map_nil, List.cons_append, List.nil_append, List.append_nil, List.length_cons, List.length_nil, List.take_zero, List.drop_zero, List.take_succ_cons, List.drop_succ_cons, List.drop_nil, List.take_nil, List.set_cons_zero, List.set_cons_succ, Nat.zero_add, Nat.add_zero, Nat.reduceAdd, Nat.reduceSub, reduceIte, Nat.reduceEqDiff, E.back, E.backR, E.ix, Res.un, AC.un, AC.un.uns, AV.un, E.un, Option.map_some, Option.map_none, Option.getD_some, List.getElem?_cons_zero, List.getElem?_cons_succ, List.getElem?_nil, crkR, crkO]); rfl) : GCode P N n c s R Q := G_tidy keep hb hR h

set_option maxRecDepth 20000 in
set_option maxHeartbeats 8000000 in
theorem c_spec_SelectWith (c : Crk) (s : Sett) (r : Int × Int) (hb : c.vals.length ≤ 1048576 ∧ c.rows.length ≤ 1048576 ∧ c.piv.length ≤ 1048576) : EFn Tryz.prog 25 [.agg (crkC c), .agg (setC s), .agg [.sc (.int .i64 r.1), .sc (.int .i64 r.2)]] [] (fun y S => y = .tup [(true, crkO 0 (swC c s r)), (true, setC (swS c s r)), (false, [.sl 3 0 (swL c s r).length (swL c s r).length]), (false, [.sc (.int .i64 (swN c s r))])] ∧ S = crkR 3 76 (swC c s r) ++ [.row 3 1 (ints (swL c s r))]) := by
 refine E_fn Tryz.func25 rfl (Nat.le_of_ble_eq_true rfl) ?_
 refine E_G (n := 0) rfl ?_
 refine G_seq ?_
 refine G_region' (L := [0, 1, 2, 3, 4, 5, 6]) rfl ?_
 refine x_box rfl rfl rfl rfl rfl ?_
 refine x_box rfl rfl rfl rfl rfl ?_
 refine x_box rfl rfl rfl rfl rfl ?_
 refine x_alloc rfl rfl rfl rfl za_29 ?_
 refine x_alloc rfl rfl rfl rfl za_34 ?_
 refine xas ?_
 refine xas ?_
 refine EOps_nil ?_
 refine G_seq ?_
 refine G_seq ?_
 refine g_tidy_A110_0 [0, 1, 2, 3, 4, 5, 6, 7, 8, 9] ?_
 refine G_region' (L := [0, 1, 2, 3, 4, 5, 6, 7, 8, 9, 10, 11, 12]) rfl ?_
 refine x_light rfl rfl rfl (L_load rfl (by first | exact d_bp ty_29 | exact ld_rp ty_29 rfl | exact d_ep ty_29)) ?_
 refine x_call rfl rfl rfl rfl rfl ca_36 (c_spec_IsCracker c) ?_
 rintro r S ⟨rfl, rfl⟩
 refine x_pure rfl rfl rfl (L_not rfl rfl) ?_
 refine xmv ?_
 refine EOps_split 23 (b := _) rfl (fun hg23 => ?_) (fun hg23 => ?_)
 ·refine x_skip rfl rfl rfl ?_
  refine x_skip rfl rfl rfl ?_
  refine x_skip rfl rfl rfl ?_
  refine x_pure rfl rfl rfl (L_pick rfl rfl) ?_
  refine xmv ?_
  refine x_skip rfl rfl rfl ?_
  refine x_skip rfl rfl rfl ?_
  refine x_skip rfl rfl rfl ?_
  refine x_pure rfl rfl rfl (L_pick rfl rfl) ?_
  refine EOps_nil ?_
  refine G_cond rfl (fun hc32 => ?_) (fun hc32 => ?_)
  ·have hk : swK c s r = false := by
    simp only [swK]
    simp_all
   have hcc : swC c s r = c ∧ swS c s r = s ∧ swL c s r = [] ∧ swN c s r = 0 := by simp [swC, swS, swL, swN, hk]
   refine G_seq ?_
   refine g_tidy_A110_0 [0, 1, 2, 3, 4, 5, 6, 7, 8, 9, 32] ?_
   refine G_drawD [0, 1] mixed ?_
   refine d_load' 0 rfl rfl rfl rfl rfl (d_bp ty_29) ?_
   refine d_load' 2 rfl rfl rfl rfl rfl (d_bp ty_34) ?_
   refine d_any 1 [3] ⟨?_, ?_, trivial⟩
   ·refine d_call 1 rfl rfl rfl rfl rfl ca_37 (c_spec_l4Copy c hb) ?_
    rintro r S ⟨rfl, rfl⟩
    refine d_any 3 [4] ⟨?_, ?_, trivial⟩
    ·refine d_heavy 3 rfl rfl (H_bslice rfl rfl (by decide) sl_22 ty_3 za_3 ⟨rfl, by decide⟩ (by decide) rfl rfl rfl rfl ?_)
     refine d_any 4 [] ⟨?_, trivial⟩
     refine d_store' 4 rfl rfl rfl rfl rfl rfl (s_bp ty_29) ?_
     refine d_any 5 [] ⟨?_, trivial⟩
     refine d_store' 5 rfl rfl rfl rfl rfl rfl (s_bp ty_34) ?_
     refine d_pure' 6 rfl rfl rfl (L_assign rfl) ?_
     refine d_pure' 7 rfl rfl rfl (L_assign rfl) ?_
     refine D_done (by kernel_rfl) ?_
     refine G_ret ?_
     rw [hcc.1, hcc.2.1, hcc.2.2.1, hcc.2.2.2]
     first
      | exact ⟨_, [5, 6, 7, 8], rfl, rfl, rfl, rfl⟩
      | exact ⟨_, [6, 7, 8, 5], rfl, rfl, rfl, rfl⟩
      | exact ⟨_, [10, 11, 12, 15], rfl, rfl, rfl, rfl⟩
    ·refine d_store' 4 rfl rfl rfl rfl rfl rfl (s_bp ty_29) ?_
     refine d_any 3 [5] ⟨?_, ?_, trivial⟩
     ·refine d_heavy 3 rfl rfl (H_bslice rfl rfl (by decide) sl_22 ty_3 za_3 ⟨rfl, by decide⟩ (by decide) rfl rfl rfl rfl ?_)
      refine d_any 5 [] ⟨?_, trivial⟩
      refine d_store' 5 rfl rfl rfl rfl rfl rfl (s_bp ty_34) ?_
      refine d_pure' 6 rfl rfl rfl (L_assign rfl) ?_
      refine d_pure' 7 rfl rfl rfl (L_assign rfl) ?_
      refine D_done (by kernel_rfl) ?_
      refine G_ret ?_
      rw [hcc.1, hcc.2.1, hcc.2.2.1, hcc.2.2.2]
      first
       | exact ⟨_, [5, 6, 7, 8], rfl, rfl, rfl, rfl⟩
       | exact ⟨_, [6, 7, 8, 5], rfl, rfl, rfl, rfl⟩
       | exact ⟨_, [10, 11, 12, 15], rfl, rfl, rfl, rfl⟩
     ·refine d_store' 5 rfl rfl rfl rfl rfl rfl (s_bp ty_34) ?_
      refine d_any 3 [] ⟨?_, trivial⟩
      refine d_heavy 3 rfl rfl (H_bslice rfl rfl (by decide) sl_22 ty_3 za_3 ⟨rfl, by decide⟩ (by decide) rfl rfl rfl rfl ?_)
      refine d_pure' 6 rfl rfl rfl (L_assign rfl) ?_
      refine d_pure' 7 rfl rfl rfl (L_assign rfl) ?_
      refine D_done (by kernel_rfl) ?_
      refine G_ret ?_
      rw [hcc.1, hcc.2.1, hcc.2.2.1, hcc.2.2.2]
      first
       | exact ⟨_, [5, 6, 7, 8], rfl, rfl, rfl, rfl⟩
       | exact ⟨_, [6, 7, 8, 5], rfl, rfl, rfl, rfl⟩
       | exact ⟨_, [10, 11, 12, 15], rfl, rfl, rfl, rfl⟩
   ·refine d_heavy 3 rfl rfl (H_bslice rfl rfl (by decide) sl_22 ty_3 za_3 ⟨rfl, by decide⟩ (by decide) rfl rfl rfl rfl ?_)
    refine d_any 1 [] ⟨?_, trivial⟩
    refine d_call 1 rfl rfl rfl rfl rfl ca_37 (c_spec_l4Copy c hb) ?_
    rintro r S ⟨rfl, rfl⟩
    refine d_any 4 [] ⟨?_, trivial⟩
    refine d_store' 4 rfl rfl rfl rfl rfl rfl (s_bp ty_29) ?_
    refine d_any 5 [] ⟨?_, trivial⟩
    refine d_store' 5 rfl rfl rfl rfl rfl rfl (s_bp ty_34) ?_
    refine d_pure' 6 rfl rfl rfl (L_assign rfl) ?_
    refine d_pure' 7 rfl rfl rfl (L_assign rfl) ?_
    refine D_done (by kernel_rfl) ?_
    refine G_ret ?_
    rw [hcc.1, hcc.2.1, hcc.2.2.1, hcc.2.2.2]
    first
     | exact ⟨_, [5, 6, 7, 8], rfl, rfl, rfl, rfl⟩
     | exact ⟨_, [6, 7, 8, 5], rfl, rfl, rfl, rfl⟩
     | exact ⟨_, [10, 11, 12, 15], rfl, rfl, rfl, rfl⟩
  ·exact Bool.noConfusion (hc32 : true = false)
 ·refine x_light rfl rfl rfl (L_load rfl (by first | exact d_bp ty_34 | exact ld_rp ty_34 rfl | exact d_ep ty_34)) ?_
  refine x_call rfl rfl rfl rfl rfl ca_23 (c_spec_IsSettings s) ?_
  rintro r S ⟨rfl, rfl⟩
  refine x_pure rfl rfl rfl (L_not rfl rfl) ?_
  refine x_pure rfl rfl rfl (L_pick rfl rfl) ?_
  refine xmv ?_
  refine EOps_split 28 (b := _) rfl (fun hg28 => ?_) (fun hg28 => ?_)
  ·refine x_skip rfl rfl rfl ?_
   refine x_skip rfl rfl rfl ?_
   refine x_skip rfl rfl rfl ?_
   refine x_pure rfl rfl rfl (L_pick rfl rfl) ?_
   refine EOps_nil ?_
   refine G_cond rfl (fun hc32 => ?_) (fun hc32 => ?_)
   ·have hk : swK c s r = false := by
     simp only [swK]
     simp_all
    have hcc : swC c s r = c ∧ swS c s r = s ∧ swL c s r = [] ∧ swN c s r = 0 := by simp [swC, swS, swL, swN, hk]
    refine G_seq ?_
    refine g_tidy_A110_0 [0, 1, 2, 3, 4, 5, 6, 7, 8, 9, 32] ?_
    refine G_drawD [0, 1] mixed ?_
    refine d_load' 0 rfl rfl rfl rfl rfl (d_bp ty_29) ?_
    refine d_load' 2 rfl rfl rfl rfl rfl (d_bp ty_34) ?_
    refine d_any 1 [3] ⟨?_, ?_, trivial⟩
    ·refine d_call 1 rfl rfl rfl rfl rfl ca_37 (c_spec_l4Copy c hb) ?_
     rintro r S ⟨rfl, rfl⟩
     refine d_any 3 [4] ⟨?_, ?_, trivial⟩
     ·refine d_heavy 3 rfl rfl (H_bslice rfl rfl (by decide) sl_22 ty_3 za_3 ⟨rfl, by decide⟩ (by decide) rfl rfl rfl rfl ?_)
      refine d_any 4 [] ⟨?_, trivial⟩
      refine d_store' 4 rfl rfl rfl rfl rfl rfl (s_bp ty_29) ?_
      refine d_any 5 [] ⟨?_, trivial⟩
      refine d_store' 5 rfl rfl rfl rfl rfl rfl (s_bp ty_34) ?_
      refine d_pure' 6 rfl rfl rfl (L_assign rfl) ?_
      refine d_pure' 7 rfl rfl rfl (L_assign rfl) ?_
      refine D_done (by kernel_rfl) ?_
      refine G_ret ?_
      rw [hcc.1, hcc.2.1, hcc.2.2.1, hcc.2.2.2]
      first
       | exact ⟨_, [5, 6, 7, 8], rfl, rfl, rfl, rfl⟩
       | exact ⟨_, [6, 7, 8, 5], rfl, rfl, rfl, rfl⟩
       | exact ⟨_, [10, 11, 12, 15], rfl, rfl, rfl, rfl⟩
     ·refine d_store' 4 rfl rfl rfl rfl rfl rfl (s_bp ty_29) ?_
      refine d_any 3 [5] ⟨?_, ?_, trivial⟩
      ·refine d_heavy 3 rfl rfl (H_bslice rfl rfl (by decide) sl_22 ty_3 za_3 ⟨rfl, by decide⟩ (by decide) rfl rfl rfl rfl ?_)
       refine d_any 5 [] ⟨?_, trivial⟩
       refine d_store' 5 rfl rfl rfl rfl rfl rfl (s_bp ty_34) ?_
       refine d_pure' 6 rfl rfl rfl (L_assign rfl) ?_
       refine d_pure' 7 rfl rfl rfl (L_assign rfl) ?_
       refine D_done (by kernel_rfl) ?_
       refine G_ret ?_
       rw [hcc.1, hcc.2.1, hcc.2.2.1, hcc.2.2.2]
       first
        | exact ⟨_, [5, 6, 7, 8], rfl, rfl, rfl, rfl⟩
        | exact ⟨_, [6, 7, 8, 5], rfl, rfl, rfl, rfl⟩
        | exact ⟨_, [10, 11, 12, 15], rfl, rfl, rfl, rfl⟩
      ·refine d_store' 5 rfl rfl rfl rfl rfl rfl (s_bp ty_34) ?_
       refine d_any 3 [] ⟨?_, trivial⟩
       refine d_heavy 3 rfl rfl (H_bslice rfl rfl (by decide) sl_22 ty_3 za_3 ⟨rfl, by decide⟩ (by decide) rfl rfl rfl rfl ?_)
       refine d_pure' 6 rfl rfl rfl (L_assign rfl) ?_
       refine d_pure' 7 rfl rfl rfl (L_assign rfl) ?_
       refine D_done (by kernel_rfl) ?_
       refine G_ret ?_
       rw [hcc.1, hcc.2.1, hcc.2.2.1, hcc.2.2.2]
       first
        | exact ⟨_, [5, 6, 7, 8], rfl, rfl, rfl, rfl⟩
        | exact ⟨_, [6, 7, 8, 5], rfl, rfl, rfl, rfl⟩
        | exact ⟨_, [10, 11, 12, 15], rfl, rfl, rfl, rfl⟩
    ·refine d_heavy 3 rfl rfl (H_bslice rfl rfl (by decide) sl_22 ty_3 za_3 ⟨rfl, by decide⟩ (by decide) rfl rfl rfl rfl ?_)
     refine d_any 1 [] ⟨?_, trivial⟩
     refine d_call 1 rfl rfl rfl rfl rfl ca_37 (c_spec_l4Copy c hb) ?_
     rintro r S ⟨rfl, rfl⟩
     refine d_any 4 [] ⟨?_, trivial⟩
     refine d_store' 4 rfl rfl rfl rfl rfl rfl (s_bp ty_29) ?_
     refine d_any 5 [] ⟨?_, trivial⟩
     refine d_store' 5 rfl rfl rfl rfl rfl rfl (s_bp ty_34) ?_
     refine d_pure' 6 rfl rfl rfl (L_assign rfl) ?_
     refine d_pure' 7 rfl rfl rfl (L_assign rfl) ?_
     refine D_done (by kernel_rfl) ?_
     refine G_ret ?_
     rw [hcc.1, hcc.2.1, hcc.2.2.1, hcc.2.2.2]
     first
      | exact ⟨_, [5, 6, 7, 8], rfl, rfl, rfl, rfl⟩
      | exact ⟨_, [6, 7, 8, 5], rfl, rfl, rfl, rfl⟩
      | exact ⟨_, [10, 11, 12, 15], rfl, rfl, rfl, rfl⟩
   ·exact Bool.noConfusion (hc32 : true = false)
  ·refine x_light rfl rfl rfl (L_load rfl (by first | exact d_bp ty_54 | exact ld_rp ty_54 rfl | exact d_ep ty_54)) ?_
   refine x_call rfl rfl rfl rfl rfl ca_35 (c_spec_IsRange r) ?_
   rintro r S ⟨rfl, rfl⟩
   refine x_pure rfl rfl rfl (L_not rfl rfl) ?_
   refine x_pure rfl rfl rfl (L_pick rfl rfl) ?_
   refine EOps_nil ?_
   refine G_cond rfl (fun hc32 => ?_) (fun hc32 => ?_)
   ·have hk : swK c s r = false := by
     simp only [swK]
     simp_all
    have hcc : swC c s r = c ∧ swS c s r = s ∧ swL c s r = [] ∧ swN c s r = 0 := by simp [swC, swS, swL, swN, hk]
    refine G_seq ?_
    refine g_tidy_A110_0 [0, 1, 2, 3, 4, 5, 6, 7, 8, 9, 32] ?_
    refine G_drawD [0, 1] mixed ?_
    refine d_load' 0 rfl rfl rfl rfl rfl (d_bp ty_29) ?_
    refine d_load' 2 rfl rfl rfl rfl rfl (d_bp ty_34) ?_
    refine d_any 1 [3] ⟨?_, ?_, trivial⟩
    ·refine d_call 1 rfl rfl rfl rfl rfl ca_37 (c_spec_l4Copy c hb) ?_
     rintro r S ⟨rfl, rfl⟩
     refine d_any 3 [4] ⟨?_, ?_, trivial⟩
     ·refine d_heavy 3 rfl rfl (H_bslice rfl rfl (by decide) sl_22 ty_3 za_3 ⟨rfl, by decide⟩ (by decide) rfl rfl rfl rfl ?_)
      refine d_any 4 [] ⟨?_, trivial⟩
      refine d_store' 4 rfl rfl rfl rfl rfl rfl (s_bp ty_29) ?_
      refine d_any 5 [] ⟨?_, trivial⟩
      refine d_store' 5 rfl rfl rfl rfl rfl rfl (s_bp ty_34) ?_
      refine d_pure' 6 rfl rfl rfl (L_assign rfl) ?_
      refine d_pure' 7 rfl rfl rfl (L_assign rfl) ?_
      refine D_done (by kernel_rfl) ?_
      refine G_ret ?_
      rw [hcc.1, hcc.2.1, hcc.2.2.1, hcc.2.2.2]
      first
       | exact ⟨_, [5, 6, 7, 8], rfl, rfl, rfl, rfl⟩
       | exact ⟨_, [6, 7, 8, 5], rfl, rfl, rfl, rfl⟩
       | exact ⟨_, [10, 11, 12, 15], rfl, rfl, rfl, rfl⟩
     ·refine d_store' 4 rfl rfl rfl rfl rfl rfl (s_bp ty_29) ?_
      refine d_any 3 [5] ⟨?_, ?_, trivial⟩
      ·refine d_heavy 3 rfl rfl (H_bslice rfl rfl (by decide) sl_22 ty_3 za_3 ⟨rfl, by decide⟩ (by decide) rfl rfl rfl rfl ?_)
       refine d_any 5 [] ⟨?_, trivial⟩
       refine d_store' 5 rfl rfl rfl rfl rfl rfl (s_bp ty_34) ?_
       refine d_pure' 6 rfl rfl rfl (L_assign rfl) ?_
       refine d_pure' 7 rfl rfl rfl (L_assign rfl) ?_
       refine D_done (by kernel_rfl) ?_
       refine G_ret ?_
       rw [hcc.1, hcc.2.1, hcc.2.2.1, hcc.2.2.2]
       first
        | exact ⟨_, [5, 6, 7, 8], rfl, rfl, rfl, rfl⟩
        | exact ⟨_, [6, 7, 8, 5], rfl, rfl, rfl, rfl⟩
        | exact ⟨_, [10, 11, 12, 15], rfl, rfl, rfl, rfl⟩
      ·refine d_store' 5 rfl rfl rfl rfl rfl rfl (s_bp ty_34) ?_
       refine d_any 3 [] ⟨?_, trivial⟩
       refine d_heavy 3 rfl rfl (H_bslice rfl rfl (by decide) sl_22 ty_3 za_3 ⟨rfl, by decide⟩ (by decide) rfl rfl rfl rfl ?_)
       refine d_pure' 6 rfl rfl rfl (L_assign rfl) ?_
       refine d_pure' 7 rfl rfl rfl (L_assign rfl) ?_
       refine D_done (by kernel_rfl) ?_
       refine G_ret ?_
       rw [hcc.1, hcc.2.1, hcc.2.2.1, hcc.2.2.2]
       first
        | exact ⟨_, [5, 6, 7, 8], rfl, rfl, rfl, rfl⟩
        | exact ⟨_, [6, 7, 8, 5], rfl, rfl, rfl, rfl⟩
        | exact ⟨_, [10, 11, 12, 15], rfl, rfl, rfl, rfl⟩
    ·refine d_heavy 3 rfl rfl (H_bslice rfl rfl (by decide) sl_22 ty_3 za_3 ⟨rfl, by decide⟩ (by decide) rfl rfl rfl rfl ?_)
     refine d_any 1 [] ⟨?_, trivial⟩
     refine d_call 1 rfl rfl rfl rfl rfl ca_37 (c_spec_l4Copy c hb) ?_
     rintro r S ⟨rfl, rfl⟩
     refine d_any 4 [] ⟨?_, trivial⟩
     refine d_store' 4 rfl rfl rfl rfl rfl rfl (s_bp ty_29) ?_
     refine d_any 5 [] ⟨?_, trivial⟩
     refine d_store' 5 rfl rfl rfl rfl rfl rfl (s_bp ty_34) ?_
     refine d_pure' 6 rfl rfl rfl (L_assign rfl) ?_
     refine d_pure' 7 rfl rfl rfl (L_assign rfl) ?_
     refine D_done (by kernel_rfl) ?_
     refine G_ret ?_
     rw [hcc.1, hcc.2.1, hcc.2.2.1, hcc.2.2.2]
     first
      | exact ⟨_, [5, 6, 7, 8], rfl, rfl, rfl, rfl⟩
      | exact ⟨_, [6, 7, 8, 5], rfl, rfl, rfl, rfl⟩
      | exact ⟨_, [10, 11, 12, 15], rfl, rfl, rfl, rfl⟩
   ·have hk : swK c s r = true := by
     simp only [swK]
     simp_all
    have hcc : swC c s r = (sw2 c s r).1 ∧ swS c s r = (sw2 c s r).2.1 ∧ swL c s r = swR (sw2 c s r).1 r ∧ swN c s r = totW (sw1 c s r).2.2 + totW (sw2 c s r).2.2 := by simp [swC, swS, swL, swN, hk]
    obtain ⟨hc, hs, hr⟩ := swK_parts hk
    obtain ⟨b1, b2⟩ := rng_bnd hr
    have hok := sw_ok hc hs hr
    have hcl := crk_lens hc
    have hc1l := crk_lens hok.c1
    have hc2l := crk_lens hok.c2
    have ht1 := okL_tot hok.l1
    have ht2 := okL_tot hok.l2
    have hl1 := hok.l1.1
    have hl2 := hok.l2.1
    have e1 := cw_of hc hs b1
    have e2 := cw_of hok.c1 hok.s1 b2
    refine G_skip ?_
    refine G_seq ?_
    refine g_tidy_A110_0 [0, 1, 2, 3, 4, 5, 6, 7, 8, 9, 32] ?_
    refine G_region' (L := [0, 1, 2, 3, 4, 5, 6, 7, 8, 9, 10, 11, 12, 13]) rfl ?_
    refine x_light rfl rfl rfl (L_load rfl (by first | exact d_bp ty_29 | exact ld_rp ty_29 rfl | exact d_ep ty_29)) ?_
    refine x_light rfl rfl rfl (L_load rfl (by first | exact d_bp ty_34 | exact ld_rp ty_34 rfl | exact d_ep ty_34)) ?_
    refine x_pure rfl rfl rfl (l_field rfl fo_54_0) ?_
    refine x_light rfl rfl rfl (L_load rfl (by first | exact d_bp ty_3 | exact ld_rp ty_3 rfl | exact d_ep ty_3)) ?_
    refine x_call rfl rfl rfl rfl rfl ca_38 (c_spec_CrackWith c s r.1 (by omega)) ?_
    rintro r S ⟨rfl, rfl⟩
    rw [e1.1, e1.2.1, e1.2.2]
    rw [show (withW 0 c s r.1 []) = sw1 c s r from rfl]
    refine xmv ?_
    refine x_pure rfl rfl rfl (L_extract rfl rfl) ?_
    refine x_pure rfl rfl rfl (L_extract rfl rfl) ?_
    refine x_pure rfl rfl rfl (L_extract rfl rfl) ?_
    refine x_alloc rfl rfl rfl rfl za_29 ?_
    refine x_alloc rfl rfl rfl rfl za_34 ?_
    refine EOps_go rfl rfl (EOp_store rfl rfl rfl (by first | exact s_bp ty_29 | exact s_ep ty_29) ?_)
    refine EOps_go rfl rfl (EOp_store rfl rfl rfl (by first | exact s_bp ty_34 | exact s_ep ty_34) ?_)
    refine xas ?_
    refine EOps_nil ?_
    refine G_seq ?_
    refine g_tidy_A110_0 [0, 1, 2, 3, 4, 5, 6, 7, 8, 9, 10, 11, 12, 32] ?_
    refine G_region' (L := [0, 1, 2, 3, 4, 5, 6, 7, 8, 9, 10, 11, 12, 13]) rfl ?_
    refine x_light rfl rfl rfl (L_load rfl (by first | exact d_bp ty_29 | exact ld_rp ty_29 rfl | exact d_ep ty_29)) ?_
    refine x_light rfl rfl rfl (L_load rfl (by first | exact d_bp ty_34 | exact ld_rp ty_34 rfl | exact d_ep ty_34)) ?_
    refine x_pure rfl rfl rfl (l_field rfl fo_54_1) ?_
    refine x_light rfl rfl rfl (L_load rfl (by first | exact d_bp ty_3 | exact ld_rp ty_3 rfl | exact d_ep ty_3)) ?_
    refine x_call rfl rfl rfl rfl rfl ca_38 (c_spec_CrackWith (sw1 c s r).1 (sw1 c s r).2.1 r.2 (by omega)) ?_
    rintro r S ⟨rfl, rfl⟩
    rw [e2.1, e2.2.1, e2.2.2]
    rw [show (withW 0 (sw1 c s r).1 (sw1 c s r).2.1 r.2 []) = sw2 c s r from rfl]
    refine xmv ?_
    refine x_pure rfl rfl rfl (L_extract rfl rfl) ?_
    refine x_pure rfl rfl rfl (L_extract rfl rfl) ?_
    refine x_pure rfl rfl rfl (L_extract rfl rfl) ?_
    refine x_alloc rfl rfl rfl rfl za_29 ?_
    refine x_alloc rfl rfl rfl rfl za_34 ?_
    refine EOps_go rfl rfl (EOp_store rfl rfl rfl (by first | exact s_bp ty_29 | exact s_ep ty_29) ?_)
    refine EOps_go rfl rfl (EOp_store rfl rfl rfl (by first | exact s_bp ty_34 | exact s_ep ty_34) ?_)
    refine xas ?_
    refine EOps_nil ?_
    refine G_seq ?_
    refine g_tidy_A110_0 [0, 1, 2, 3, 4, 5, 6, 7, 8, 9, 10, 11, 12, 13, 14, 15, 32] ?_
    refine G_region' (L := [0, 1, 2, 3, 4, 5, 6, 7, 8]) rfl ?_
    refine x_light rfl rfl rfl (L_load rfl (by first | exact d_bp ty_29 | exact ld_rp ty_29 rfl | exact d_ep ty_29)) ?_
    refine x_pure rfl rfl rfl (l_field rfl fo_54_0) ?_
    refine x_light rfl rfl rfl (L_load rfl (by first | exact d_bp ty_3 | exact ld_rp ty_3 rfl | exact d_ep ty_3)) ?_
    refine x_call rfl rfl rfl rfl rfl ca_39 (c_spec_FindPivot (sw2 c s r).1 r.1 (by omega)) ?_
    rintro r S ⟨rfl, rfl⟩
    refine xmv ?_
    refine x_pure rfl rfl rfl (L_extract rfl rfl) ?_
    refine x_pure rfl rfl rfl (L_extract rfl rfl) ?_
    refine xas ?_
    refine xas ?_
    refine EOps_nil ?_
    refine G_seq ?_
    refine g_tidy_A110_0 [0, 1, 2, 3, 4, 5, 6, 7, 8, 9, 10, 11, 12, 13, 14, 15, 16, 32] ?_
    refine G_region' (L := [0, 1, 2, 3, 4, 5, 6, 7, 8]) rfl ?_
    refine x_light rfl rfl rfl (L_load rfl (by first | exact d_bp ty_29 | exact ld_rp ty_29 rfl | exact d_ep ty_29)) ?_
    refine x_pure rfl rfl rfl (l_field rfl fo_54_1) ?_
    refine x_light rfl rfl rfl (L_load rfl (by first | exact d_bp ty_3 | exact ld_rp ty_3 rfl | exact d_ep ty_3)) ?_
    refine x_call rfl rfl rfl rfl rfl ca_39 (c_spec_FindPivot (sw2 c s r).1 r.2 (by omega)) ?_
    rintro r S ⟨rfl, rfl⟩
    refine xmv ?_
    refine x_pure rfl rfl rfl (L_extract rfl rfl) ?_
    refine x_pure rfl rfl rfl (L_extract rfl rfl) ?_
    refine xas ?_
    refine xas ?_
    refine EOps_nil ?_
    refine G_seq ?_
    refine g_tidy_A110_0 [0, 1, 2, 3, 4, 5, 6, 7, 8, 9, 10, 11, 12, 13, 14, 15, 16, 18, 32] ?_
    refine G_drawD [13, 14] mixed ?_
    refine d_pure' 3 rfl rfl rfl (L_move rfl) ?_
    refine d_pure' 4 rfl rfl rfl (L_move rfl) ?_
    refine d_pure' 6 rfl rfl rfl (L_move rfl) ?_
    refine d_pure' 7 rfl rfl rfl (L_move rfl) ?_
    refine d_pure' 8 rfl rfl rfl (by first | exact l_add rfl rfl rfl | exact L_bin rfl rfl rfl rfl) ?_
    refine d_load' 0 rfl rfl rfl rfl rfl (d_bp ty_29) ?_
    refine d_load' 1 rfl rfl rfl rfl rfl (d_bp ty_34) ?_
    refine d_load' 2 rfl rfl rfl rfl rfl (d_bp ty_29) ?_
    refine d_any 5 [] ⟨?_, trivial⟩
    refine d_call 5 rfl rfl rfl rfl rfl ca_40 (c_spec_RowsBetween (sw2 c s r).1 (fpAt (sw2 c s r).1.piv r.1) (fpAt (sw2 c s r).1.piv r.2) (by omega)) ?_
    rintro r S ⟨rfl, rfl⟩
    rw [show rowsB (sw2 c s r).1 (fpAt (sw2 c s r).1.piv r.1) (fpAt (sw2 c s r).1.piv r.2) = swR (sw2 c s r).1 r from rfl]
    refine d_any 9 [] ⟨?_, trivial⟩
    refine d_store' 9 rfl rfl rfl rfl rfl rfl (s_bp ty_29) ?_
    refine d_any 10 [] ⟨?_, trivial⟩
    refine d_store' 10 rfl rfl rfl rfl rfl rfl (s_bp ty_34) ?_
    refine d_pure' 11 rfl rfl rfl (L_assign rfl) ?_
    refine d_pure' 12 rfl rfl rfl (L_assign rfl) ?_
    refine D_done (by kernel_rfl) ?_
    refine G_ret ?_
    rw [hcc.1, hcc.2.1, hcc.2.2.1, hcc.2.2.2]
    first
     | exact ⟨_, [5, 6, 7, 8], rfl, rfl, rfl, rfl⟩
     | exact ⟨_, [6, 7, 8, 5], rfl, rfl, rfl, rfl⟩
     | exact ⟨_, [10, 11, 12, 15], rfl, rfl, rfl, rfl⟩

end Go.Proofs.YthnadkagchbhbaaGreat.E
