/- Walks through functions, by program out of the session's annotations. -/
import Derived.Test.YthnadkagchbhbaaGreatA92
import Derived.Test.YthnadkagchbhbaaGreatF4
namespace Go.Proofs.YthnadkagchbhbaaGreat.E
open Go Go.RowKit Go.Proofs
set_option linter.unusedVariables false
set_option linter.unusedSimpArgs false

theorem g_tidy_A95_0 {P : Program} {N n : Nat} {s : Slots} {R : List Res} {Q : Exit → Slots → List Res → Prop} {c : Code} (keep : List Nat) {base : Slots} {R' : List Res} (h : GCode P N n c base R' Q) (hb : keepOf s keep = base := by simp only [E.keepOf, E.get, E.ev, E.cv, E.fill', E.fill, E.slotsOf, Res.sh, AC.sh, AC.sh.shs, AV.sh, E.splice, List.map_cons, List.map_nil, List.cons_append, List.nil_append, List.append_nil, List.length_cons, List.length_nil, List.take_zero, List.drop_zero, List.take_succ_cons, List.drop_succ_cons, List.drop_nil, List.take_nil, List.set_cons_zero, List.set_cons_succ, Nat.zero_add, Nat.add_zero, Nat.reduceAdd, Nat.reduceSub, reduceIte, Nat.reduceEqDiff, E.back, E.backR, E.ix, Res.un, AC.un, AC.un.uns, AV.un, E.un, Option.map_some, Option.map_none, Option.getD_some, List.getElem?_cons_zero, List.getElem?_cons_succ, List.getElem?_nil, crkR, crkO]; rfl) (hR : R = R' := by (try simp only [E.keepOf, E.get, E.ev, E.cv, E.fill', E.fill, E.slotsOf, Res.sh, AC.sh, AC.sh.shs, AV.sh, E.splice, List.map_cons, List.map_nil, List.cons_append, List.nil_append, List.append_nil, List.length_cons, List.length_nil, List.take_zero, List.drop_zero, List.take_succ_cons, List.drop_succ_cons, List.drop_nil, List.take_nil, List.set_cons_zero, List.set_cons_succ, Nat.zero_add, Nat.add_zero, Nat.reduceAdd, Nat.reduceSub, reduceIte, Nat.reduceEqDiff, E.back, E.backR, E.ix, Res.un, AC.un, AC.un.uns, AV.un, E.un, Option.map_some, Option.map_none, Option.getD_some, List.getElem?_cons_zero, List.getElem?_cons_succ, List.getElem?_nil, crkR, crkO]); rfl) : GCode P N n c s R Q := G_tidy keep hb hR h
theorem g_seqD_A95_1 {P : Program} {N n : Nat} {s : Slots} {R : List Res} {Q : Exit → Slots → List Res → Prop} {α : Type} {x y : Code} (keep : List Nat) (mods : α → Slots) (Rf : α → List Res) (I : α → Prop) {base : Slots}
  (hx : GCode P N n x s R (EThen (fun s' R' => ∃ σ, okσ n R' σ = true ∧ ∃ z, I z ∧ reR n σ R' = Rf z ∧ chk (renS n σ s') (mods z) ∧ chk (renS n σ s') base) Q)) (hy : ∀ z, I z → GCode P N n y (mods z ++ base) (Rf z) Q) (hb : keepOf s keep = base := by simp only [E.keepOf, E.get, E.ev, E.cv, E.fill', E.fill, E.slotsOf, Res.sh, AC.sh, AC.sh.shs, AV.sh, E.splice, List.map_cons, List.map_nil, List.cons_append, List.nil_append, List.append_nil, List.length_cons, List.length_nil, List.take_zero, List.drop_zero, List.take_succ_cons, List.drop_succ_cons, List.drop_nil, List.take_nil, List.set_cons_zero, List.set_cons_succ, Nat.zero_add, Nat.add_zero, Nat.reduceAdd, Nat.reduceSub, reduceIte, Nat.reduceEqDiff, E.back, E.backR, E.ix, Res.un, AC.un, AC.un.uns, AV.un, E.un, Option.map_some, Option.map_none, Option.getD_some, List.getElem?_cons_zero, List.getElem?_cons_succ, List.getElem?_nil, crkR, crkO]; rfl) : GCode P N n (.seq x y) s R Q := G_seqD keep mods Rf I hb hx hy

set_option maxRecDepth 20000 in
set_option maxHeartbeats 8000000 in
theorem c_spec_CrackWith (c : Crk) (s : Sett) (v : Int) (hb : c.vals.length ≤ 1048576 ∧ c.rows.length ≤ 1048576 ∧ c.piv.length ≤ 1048576) : EFn Tryz.prog 38 [.agg (crkC c), .agg (setC s), .c (.sc (.int .i64 v))] [] (fun r S => r = .tup [(true, crkO 0 (cwC c s v)), (true, setC (cwS c s v)), (false, [.sc (.int .i64 (cwN c s v))])] ∧ S = crkR 3 76 (cwC c s v)) := by
 refine E_fn Tryz.func38 rfl (Nat.le_of_ble_eq_true rfl) ?_
 refine E_G (n := 0) rfl ?_
 refine G_seq ?_
 refine G_region' (L := [0, 1, 2, 3, 4]) rfl ?_
 refine x_box rfl rfl rfl rfl rfl ?_
 refine x_box rfl rfl rfl rfl rfl ?_
 refine x_alloc rfl rfl rfl rfl za_29 ?_
 refine x_alloc rfl rfl rfl rfl za_34 ?_
 refine xas ?_
 refine EOps_nil ?_
 refine G_seq ?_
 refine G_seq ?_
 refine g_tidy_A95_0 [0, 1, 2, 3, 4, 6, 7, 8] ?_
 refine G_region' (L := [0, 1, 2, 3, 4, 5, 6, 7, 8, 9, 10, 11, 12]) rfl ?_
 refine x_light rfl rfl rfl (L_load rfl (by first | exact d_bp ty_29 | exact ld_rp ty_29 rfl | exact d_ep ty_29)) ?_
 refine x_call rfl rfl rfl rfl rfl ca_36 (c_spec_IsCracker c) ?_
 rintro r S ⟨rfl, rfl⟩
 refine x_pure rfl rfl rfl (L_not rfl rfl) ?_
 refine xmv ?_
 refine EOps_split 15 (b := _) rfl (fun hg15 => ?_) (fun hg15 => ?_)
 ·refine x_skip rfl rfl rfl ?_
  refine x_skip rfl rfl rfl ?_
  refine x_skip rfl rfl rfl ?_
  refine x_pure rfl rfl rfl (L_pick rfl rfl) ?_
  refine xmv ?_
  refine x_skip rfl rfl rfl ?_
  refine x_skip rfl rfl rfl ?_
  refine x_skip rfl rfl rfl ?_
  refine x_pure rfl rfl rfl (L_pick rfl rfl) ?_
  refine EOps_nil ?_
  refine G_cond rfl (fun hc24 => ?_) (fun hc24 => ?_)
  ·have hk : cwK c s v = false := by
    simp only [cwK, bnd]
    simp_all
   have hcc : cwC c s v = c ∧ cwS c s v = s ∧ cwN c s v = 0 := by simp [cwC, cwS, cwN, hk]
   refine G_seq ?_
   refine g_tidy_A95_0 [0, 1, 2, 3, 4, 6, 7, 8, 24] ?_
   refine G_drawU mixed ?_
   refine u_any 0 [2] ⟨?_, ?_, trivial⟩
   ·refine u_op 0 rfl rfl (EOp_light rfl (by decide) (L_load rfl (by first | exact d_bp ty_29 | exact ld_rp ty_29 rfl | exact d_ep ty_29)) ?_)
    refine u_any 1 [2] ⟨?_, ?_, trivial⟩
    ·refine u_call 1 rfl rfl rfl rfl rfl ca_37 (c_spec_l4Copy c hb) ?_
     rintro r S ⟨rfl, rfl⟩
     refine u_any 2 [3] ⟨?_, ?_, trivial⟩
     ·refine u_op 2 rfl rfl (EOp_light rfl (by decide) (L_load rfl (by first | exact d_bp ty_34 | exact ld_rp ty_34 rfl | exact d_ep ty_34)) ?_)
      refine u_any 3 [] ⟨?_, trivial⟩
      refine u_op 3 rfl rfl (EOp_store rfl rfl rfl (by first | exact s_bp ty_29 | exact s_ep ty_29) ?_)
      refine u_any 4 [] ⟨?_, trivial⟩
      refine u_op 4 rfl rfl (EOp_store rfl rfl rfl (by first | exact s_bp ty_34 | exact s_ep ty_34) ?_)
      refine u_pure 5 rfl rfl rfl (L_assign rfl) ?_
      refine u_done ?_
      refine G_ret ?_
      rw [hcc.1, hcc.2.1, hcc.2.2]
      first
       | exact ⟨_, [4, 5, 6], rfl, rfl, rfl, rfl⟩
       | exact ⟨_, [8, 9, 10], rfl, rfl, rfl, rfl⟩
     ·refine u_op 3 rfl rfl (EOp_store rfl rfl rfl (by first | exact s_bp ty_29 | exact s_ep ty_29) ?_)
      refine u_any 2 [] ⟨?_, trivial⟩
      refine u_op 2 rfl rfl (EOp_light rfl (by decide) (L_load rfl (by first | exact d_bp ty_34 | exact ld_rp ty_34 rfl | exact d_ep ty_34)) ?_)
      refine u_any 4 [] ⟨?_, trivial⟩
      refine u_op 4 rfl rfl (EOp_store rfl rfl rfl (by first | exact s_bp ty_34 | exact s_ep ty_34) ?_)
      refine u_pure 5 rfl rfl rfl (L_assign rfl) ?_
      refine u_done ?_
      refine G_ret ?_
      rw [hcc.1, hcc.2.1, hcc.2.2]
      first
       | exact ⟨_, [4, 5, 6], rfl, rfl, rfl, rfl⟩
       | exact ⟨_, [8, 9, 10], rfl, rfl, rfl, rfl⟩
    ·refine u_op 2 rfl rfl (EOp_light rfl (by decide) (L_load rfl (by first | exact d_bp ty_34 | exact ld_rp ty_34 rfl | exact d_ep ty_34)) ?_)
     refine u_any 1 [] ⟨?_, trivial⟩
     refine u_call 1 rfl rfl rfl rfl rfl ca_37 (c_spec_l4Copy c hb) ?_
     rintro r S ⟨rfl, rfl⟩
     refine u_any 3 [] ⟨?_, trivial⟩
     refine u_op 3 rfl rfl (EOp_store rfl rfl rfl (by first | exact s_bp ty_29 | exact s_ep ty_29) ?_)
     refine u_any 4 [] ⟨?_, trivial⟩
     refine u_op 4 rfl rfl (EOp_store rfl rfl rfl (by first | exact s_bp ty_34 | exact s_ep ty_34) ?_)
     refine u_pure 5 rfl rfl rfl (L_assign rfl) ?_
     refine u_done ?_
     refine G_ret ?_
     rw [hcc.1, hcc.2.1, hcc.2.2]
     first
      | exact ⟨_, [4, 5, 6], rfl, rfl, rfl, rfl⟩
      | exact ⟨_, [8, 9, 10], rfl, rfl, rfl, rfl⟩
   ·refine u_op 2 rfl rfl (EOp_light rfl (by decide) (L_load rfl (by first | exact d_bp ty_34 | exact ld_rp ty_34 rfl | exact d_ep ty_34)) ?_)
    refine u_any 0 [] ⟨?_, trivial⟩
    refine u_op 0 rfl rfl (EOp_light rfl (by decide) (L_load rfl (by first | exact d_bp ty_29 | exact ld_rp ty_29 rfl | exact d_ep ty_29)) ?_)
    refine u_any 1 [] ⟨?_, trivial⟩
    refine u_call 1 rfl rfl rfl rfl rfl ca_37 (c_spec_l4Copy c hb) ?_
    rintro r S ⟨rfl, rfl⟩
    refine u_any 3 [] ⟨?_, trivial⟩
    refine u_op 3 rfl rfl (EOp_store rfl rfl rfl (by first | exact s_bp ty_29 | exact s_ep ty_29) ?_)
    refine u_any 4 [] ⟨?_, trivial⟩
    refine u_op 4 rfl rfl (EOp_store rfl rfl rfl (by first | exact s_bp ty_34 | exact s_ep ty_34) ?_)
    refine u_pure 5 rfl rfl rfl (L_assign rfl) ?_
    refine u_done ?_
    refine G_ret ?_
    rw [hcc.1, hcc.2.1, hcc.2.2]
    first
     | exact ⟨_, [4, 5, 6], rfl, rfl, rfl, rfl⟩
     | exact ⟨_, [8, 9, 10], rfl, rfl, rfl, rfl⟩
  ·exact Bool.noConfusion (hc24 : true = false)
 ·refine x_light rfl rfl rfl (L_load rfl (by first | exact d_bp ty_34 | exact ld_rp ty_34 rfl | exact d_ep ty_34)) ?_
  refine x_call rfl rfl rfl rfl rfl ca_23 (c_spec_IsSettings s) ?_
  rintro r S ⟨rfl, rfl⟩
  refine x_pure rfl rfl rfl (L_not rfl rfl) ?_
  refine x_pure rfl rfl rfl (L_pick rfl rfl) ?_
  refine xmv ?_
  refine EOps_split 20 (b := _) rfl (fun hg20 => ?_) (fun hg20 => ?_)
  ·refine x_skip rfl rfl rfl ?_
   refine x_skip rfl rfl rfl ?_
   refine x_skip rfl rfl rfl ?_
   refine x_pure rfl rfl rfl (L_pick rfl rfl) ?_
   refine EOps_nil ?_
   refine G_cond rfl (fun hc24 => ?_) (fun hc24 => ?_)
   ·have hk : cwK c s v = false := by
     simp only [cwK, bnd]
     simp_all
    have hcc : cwC c s v = c ∧ cwS c s v = s ∧ cwN c s v = 0 := by simp [cwC, cwS, cwN, hk]
    refine G_seq ?_
    refine g_tidy_A95_0 [0, 1, 2, 3, 4, 6, 7, 8, 24] ?_
    refine G_drawU mixed ?_
    refine u_any 0 [2] ⟨?_, ?_, trivial⟩
    ·refine u_op 0 rfl rfl (EOp_light rfl (by decide) (L_load rfl (by first | exact d_bp ty_29 | exact ld_rp ty_29 rfl | exact d_ep ty_29)) ?_)
     refine u_any 1 [2] ⟨?_, ?_, trivial⟩
     ·refine u_call 1 rfl rfl rfl rfl rfl ca_37 (c_spec_l4Copy c hb) ?_
      rintro r S ⟨rfl, rfl⟩
      refine u_any 2 [3] ⟨?_, ?_, trivial⟩
      ·refine u_op 2 rfl rfl (EOp_light rfl (by decide) (L_load rfl (by first | exact d_bp ty_34 | exact ld_rp ty_34 rfl | exact d_ep ty_34)) ?_)
       refine u_any 3 [] ⟨?_, trivial⟩
       refine u_op 3 rfl rfl (EOp_store rfl rfl rfl (by first | exact s_bp ty_29 | exact s_ep ty_29) ?_)
       refine u_any 4 [] ⟨?_, trivial⟩
       refine u_op 4 rfl rfl (EOp_store rfl rfl rfl (by first | exact s_bp ty_34 | exact s_ep ty_34) ?_)
       refine u_pure 5 rfl rfl rfl (L_assign rfl) ?_
       refine u_done ?_
       refine G_ret ?_
       rw [hcc.1, hcc.2.1, hcc.2.2]
       first
        | exact ⟨_, [4, 5, 6], rfl, rfl, rfl, rfl⟩
        | exact ⟨_, [8, 9, 10], rfl, rfl, rfl, rfl⟩
      ·refine u_op 3 rfl rfl (EOp_store rfl rfl rfl (by first | exact s_bp ty_29 | exact s_ep ty_29) ?_)
       refine u_any 2 [] ⟨?_, trivial⟩
       refine u_op 2 rfl rfl (EOp_light rfl (by decide) (L_load rfl (by first | exact d_bp ty_34 | exact ld_rp ty_34 rfl | exact d_ep ty_34)) ?_)
       refine u_any 4 [] ⟨?_, trivial⟩
       refine u_op 4 rfl rfl (EOp_store rfl rfl rfl (by first | exact s_bp ty_34 | exact s_ep ty_34) ?_)
       refine u_pure 5 rfl rfl rfl (L_assign rfl) ?_
       refine u_done ?_
       refine G_ret ?_
       rw [hcc.1, hcc.2.1, hcc.2.2]
       first
        | exact ⟨_, [4, 5, 6], rfl, rfl, rfl, rfl⟩
        | exact ⟨_, [8, 9, 10], rfl, rfl, rfl, rfl⟩
     ·refine u_op 2 rfl rfl (EOp_light rfl (by decide) (L_load rfl (by first | exact d_bp ty_34 | exact ld_rp ty_34 rfl | exact d_ep ty_34)) ?_)
      refine u_any 1 [] ⟨?_, trivial⟩
      refine u_call 1 rfl rfl rfl rfl rfl ca_37 (c_spec_l4Copy c hb) ?_
      rintro r S ⟨rfl, rfl⟩
      refine u_any 3 [] ⟨?_, trivial⟩
      refine u_op 3 rfl rfl (EOp_store rfl rfl rfl (by first | exact s_bp ty_29 | exact s_ep ty_29) ?_)
      refine u_any 4 [] ⟨?_, trivial⟩
      refine u_op 4 rfl rfl (EOp_store rfl rfl rfl (by first | exact s_bp ty_34 | exact s_ep ty_34) ?_)
      refine u_pure 5 rfl rfl rfl (L_assign rfl) ?_
      refine u_done ?_
      refine G_ret ?_
      rw [hcc.1, hcc.2.1, hcc.2.2]
      first
       | exact ⟨_, [4, 5, 6], rfl, rfl, rfl, rfl⟩
       | exact ⟨_, [8, 9, 10], rfl, rfl, rfl, rfl⟩
    ·refine u_op 2 rfl rfl (EOp_light rfl (by decide) (L_load rfl (by first | exact d_bp ty_34 | exact ld_rp ty_34 rfl | exact d_ep ty_34)) ?_)
     refine u_any 0 [] ⟨?_, trivial⟩
     refine u_op 0 rfl rfl (EOp_light rfl (by decide) (L_load rfl (by first | exact d_bp ty_29 | exact ld_rp ty_29 rfl | exact d_ep ty_29)) ?_)
     refine u_any 1 [] ⟨?_, trivial⟩
     refine u_call 1 rfl rfl rfl rfl rfl ca_37 (c_spec_l4Copy c hb) ?_
     rintro r S ⟨rfl, rfl⟩
     refine u_any 3 [] ⟨?_, trivial⟩
     refine u_op 3 rfl rfl (EOp_store rfl rfl rfl (by first | exact s_bp ty_29 | exact s_ep ty_29) ?_)
     refine u_any 4 [] ⟨?_, trivial⟩
     refine u_op 4 rfl rfl (EOp_store rfl rfl rfl (by first | exact s_bp ty_34 | exact s_ep ty_34) ?_)
     refine u_pure 5 rfl rfl rfl (L_assign rfl) ?_
     refine u_done ?_
     refine G_ret ?_
     rw [hcc.1, hcc.2.1, hcc.2.2]
     first
      | exact ⟨_, [4, 5, 6], rfl, rfl, rfl, rfl⟩
      | exact ⟨_, [8, 9, 10], rfl, rfl, rfl, rfl⟩
   ·exact Bool.noConfusion (hc24 : true = false)
  ·refine xmv ?_
   refine x_call rfl rfl rfl rfl rfl ca_34 (c_spec_l1In v (-1000) 1000) ?_
   rintro r S ⟨rfl, rfl⟩
   refine x_pure rfl rfl rfl (L_not rfl rfl) ?_
   refine x_pure rfl rfl rfl (L_pick rfl rfl) ?_
   refine EOps_nil ?_
   refine G_cond rfl (fun hc24 => ?_) (fun hc24 => ?_)
   ·have hk : cwK c s v = false := by
     simp only [cwK, bnd]
     simp_all
    have hcc : cwC c s v = c ∧ cwS c s v = s ∧ cwN c s v = 0 := by simp [cwC, cwS, cwN, hk]
    refine G_seq ?_
    refine g_tidy_A95_0 [0, 1, 2, 3, 4, 6, 7, 8, 24] ?_
    refine G_drawU mixed ?_
    refine u_any 0 [2] ⟨?_, ?_, trivial⟩
    ·refine u_op 0 rfl rfl (EOp_light rfl (by decide) (L_load rfl (by first | exact d_bp ty_29 | exact ld_rp ty_29 rfl | exact d_ep ty_29)) ?_)
     refine u_any 1 [2] ⟨?_, ?_, trivial⟩
     ·refine u_call 1 rfl rfl rfl rfl rfl ca_37 (c_spec_l4Copy c hb) ?_
      rintro r S ⟨rfl, rfl⟩
      refine u_any 2 [3] ⟨?_, ?_, trivial⟩
      ·refine u_op 2 rfl rfl (EOp_light rfl (by decide) (L_load rfl (by first | exact d_bp ty_34 | exact ld_rp ty_34 rfl | exact d_ep ty_34)) ?_)
       refine u_any 3 [] ⟨?_, trivial⟩
       refine u_op 3 rfl rfl (EOp_store rfl rfl rfl (by first | exact s_bp ty_29 | exact s_ep ty_29) ?_)
       refine u_any 4 [] ⟨?_, trivial⟩
       refine u_op 4 rfl rfl (EOp_store rfl rfl rfl (by first | exact s_bp ty_34 | exact s_ep ty_34) ?_)
       refine u_pure 5 rfl rfl rfl (L_assign rfl) ?_
       refine u_done ?_
       refine G_ret ?_
       rw [hcc.1, hcc.2.1, hcc.2.2]
       first
        | exact ⟨_, [4, 5, 6], rfl, rfl, rfl, rfl⟩
        | exact ⟨_, [8, 9, 10], rfl, rfl, rfl, rfl⟩
      ·refine u_op 3 rfl rfl (EOp_store rfl rfl rfl (by first | exact s_bp ty_29 | exact s_ep ty_29) ?_)
       refine u_any 2 [] ⟨?_, trivial⟩
       refine u_op 2 rfl rfl (EOp_light rfl (by decide) (L_load rfl (by first | exact d_bp ty_34 | exact ld_rp ty_34 rfl | exact d_ep ty_34)) ?_)
       refine u_any 4 [] ⟨?_, trivial⟩
       refine u_op 4 rfl rfl (EOp_store rfl rfl rfl (by first | exact s_bp ty_34 | exact s_ep ty_34) ?_)
       refine u_pure 5 rfl rfl rfl (L_assign rfl) ?_
       refine u_done ?_
       refine G_ret ?_
       rw [hcc.1, hcc.2.1, hcc.2.2]
       first
        | exact ⟨_, [4, 5, 6], rfl, rfl, rfl, rfl⟩
        | exact ⟨_, [8, 9, 10], rfl, rfl, rfl, rfl⟩
     ·refine u_op 2 rfl rfl (EOp_light rfl (by decide) (L_load rfl (by first | exact d_bp ty_34 | exact ld_rp ty_34 rfl | exact d_ep ty_34)) ?_)
      refine u_any 1 [] ⟨?_, trivial⟩
      refine u_call 1 rfl rfl rfl rfl rfl ca_37 (c_spec_l4Copy c hb) ?_
      rintro r S ⟨rfl, rfl⟩
      refine u_any 3 [] ⟨?_, trivial⟩
      refine u_op 3 rfl rfl (EOp_store rfl rfl rfl (by first | exact s_bp ty_29 | exact s_ep ty_29) ?_)
      refine u_any 4 [] ⟨?_, trivial⟩
      refine u_op 4 rfl rfl (EOp_store rfl rfl rfl (by first | exact s_bp ty_34 | exact s_ep ty_34) ?_)
      refine u_pure 5 rfl rfl rfl (L_assign rfl) ?_
      refine u_done ?_
      refine G_ret ?_
      rw [hcc.1, hcc.2.1, hcc.2.2]
      first
       | exact ⟨_, [4, 5, 6], rfl, rfl, rfl, rfl⟩
       | exact ⟨_, [8, 9, 10], rfl, rfl, rfl, rfl⟩
    ·refine u_op 2 rfl rfl (EOp_light rfl (by decide) (L_load rfl (by first | exact d_bp ty_34 | exact ld_rp ty_34 rfl | exact d_ep ty_34)) ?_)
     refine u_any 0 [] ⟨?_, trivial⟩
     refine u_op 0 rfl rfl (EOp_light rfl (by decide) (L_load rfl (by first | exact d_bp ty_29 | exact ld_rp ty_29 rfl | exact d_ep ty_29)) ?_)
     refine u_any 1 [] ⟨?_, trivial⟩
     refine u_call 1 rfl rfl rfl rfl rfl ca_37 (c_spec_l4Copy c hb) ?_
     rintro r S ⟨rfl, rfl⟩
     refine u_any 3 [] ⟨?_, trivial⟩
     refine u_op 3 rfl rfl (EOp_store rfl rfl rfl (by first | exact s_bp ty_29 | exact s_ep ty_29) ?_)
     refine u_any 4 [] ⟨?_, trivial⟩
     refine u_op 4 rfl rfl (EOp_store rfl rfl rfl (by first | exact s_bp ty_34 | exact s_ep ty_34) ?_)
     refine u_pure 5 rfl rfl rfl (L_assign rfl) ?_
     refine u_done ?_
     refine G_ret ?_
     rw [hcc.1, hcc.2.1, hcc.2.2]
     first
      | exact ⟨_, [4, 5, 6], rfl, rfl, rfl, rfl⟩
      | exact ⟨_, [8, 9, 10], rfl, rfl, rfl, rfl⟩
   ·have hk : cwK c s v = true := by
     simp only [cwK, bnd]
     simp_all
    have hcc : cwC c s v = (withW 0 c s v []).1 ∧ cwS c s v = (withW 0 c s v []).2.1 ∧ cwN c s v = totW (withW 0 c s v []).2.2 := by simp [cwC, cwS, cwN, hk]
    obtain ⟨hc, hs, hv⟩ := cwK_parts hk
    have hwl := withL_ok (q := 0) (l := []) (n := 0) hv hc hs (okL_nil 0)
    refine G_skip ?_
    refine G_seq ?_
    refine G_region' (L := [0, 1, 2]) rfl ?_
    refine EOps_go rfl rfl (Heavy.op (H_bslice rfl rfl (by decide) sl_79 ty_93 za_93 ⟨rfl, by decide⟩ (by decide) rfl rfl rfl rfl ?_))
    refine x_alloc rfl rfl rfl rfl za_79 ?_
    refine EOps_go rfl rfl (EOp_store rfl rfl rfl (by first | exact s_bp ty_79 | exact s_ep ty_79) ?_)
    refine EOps_nil ?_
    refine g_seqD_A95_1 (α := Unit) [0, 1, 2, 3, 4, 24] (fun _ => [(6, .c (.bp 2 0)), (7, .c (.bp 3 0)), (8, .c (.sc (.int .i64 (0)))), (9, .c (.bp 5 0)), (10, .c (.bp 6 0)), (11, .c (.bp 7 0))]) (fun _ => [.box (crkC c), .box (setC s), .box [.sc (.slice none 0 0), .sc (.slice none 0 0), .sc (.slice none 0 0)], .box [.sc (.int .i64 0), .sc (.int .i64 0), .sc (.int .i64 0)], .row 93 5 (quints (withW 0 c s v []).2.2), .box [.sl 4 0 (withW 0 c s v []).2.2.length (withW 0 c s v []).2.2.length], .box (crkO 8 (withW 0 c s v []).1), .box (setC (withW 0 c s v []).2.1), .row 3 1 (ints (withW 0 c s v []).1.vals), .row 3 1 (ints (withW 0 c s v []).1.rows), .row 76 2 (pairs (withW 0 c s v []).1.piv)]) (fun _ => True) ?_ ?_
    ·refine g_tidy_A95_0 [0, 1, 2, 3, 4, 6, 7, 8, 9, 24] ?_
     refine G_drawT mixed ?_
     refine t_light 0 rfl rfl rfl (L_load rfl (by first | exact d_bp ty_29 | exact ld_rp ty_29 rfl | exact d_ep ty_29)) ?_
     refine t_light 2 rfl rfl rfl (L_load rfl (by first | exact d_bp ty_34 | exact ld_rp ty_34 rfl | exact d_ep ty_34)) ?_
     refine t_old 3 rfl rfl rfl (L_move rfl) ?_
     refine t_three 1 8 9 ?_ ?_ ?_
     ·refine s_call 1 rfl rfl rfl rfl rfl ca_37 (c_spec_l4Copy c hb) ?_
      rintro r S ⟨rfl, rfl⟩
      refine t_three 4 8 9 ?_ ?_ ?_
      ·first
        | (refine s_frame 4 [5, 4, 6, 7, 8] rfl rfl rfl rfl rfl ca_50 rfl (c_spec_l7With 0 c s v [] 0 hc hs hv (okL_nil 0) (by omega)) ?_)
        | (refine s_frame 4 [5, 4, 7, 8, 9] rfl rfl rfl rfl rfl ca_50 rfl (c_spec_l7With 0 c s v [] 0 hc hs hv (okL_nil 0) (by omega)) ?_)
        | (refine s_frame 4 [5, 4, 8, 9, 10] rfl rfl rfl rfl rfl ca_50 rfl (c_spec_l7With 0 c s v [] 0 hc hs hv (okL_nil 0) (by omega)) ?_)
       rintro r S ⟨r0, S0, ⟨rfl, rfl⟩, rfl, rfl⟩
       refine t_old 5 rfl rfl rfl (L_move rfl) ?_
       refine t_old 6 rfl rfl rfl (L_extract rfl rfl) ?_
       refine t_old 7 rfl rfl rfl (L_extract rfl rfl) ?_
       refine t_two 8 9 ?_ ?_
       ·refine s_heavy 8 rfl rfl rfl (V_alloc rfl za_29 ?_)
        refine t_heavy 9 rfl rfl rfl (V_alloc rfl za_34 ?_)
        refine t_turn 10 rfl rfl (EOp_store rfl rfl rfl (by first | exact s_bp ty_29 | exact s_ep ty_29) ?_)
        refine t_turn 11 rfl rfl (EOp_store rfl rfl rfl (by first | exact s_bp ty_34 | exact s_ep ty_34) ?_)
        refine T_done (by kernel_rfl) ?_
        skip
        first
         | (refine ⟨[0, 1, 2, 3, 4, 5, 12, 13, 9, 10, 11], rfl, (), ?_, rfl, ⟨.inr rfl, .inr rfl, .inr rfl, .inr rfl, .inr rfl, .inr rfl, trivial⟩, ⟨.inr rfl, .inr rfl, .inr rfl, .inr rfl, .inr rfl, .inr rfl, trivial⟩⟩)
         | (refine ⟨[0, 1, 2, 3, 4, 5, 13, 12, 9, 10, 11], rfl, (), ?_, rfl, ⟨.inr rfl, .inr rfl, .inr rfl, .inr rfl, .inr rfl, .inr rfl, trivial⟩, ⟨.inr rfl, .inr rfl, .inr rfl, .inr rfl, .inr rfl, .inr rfl, trivial⟩⟩)
         | (refine ⟨[0, 1, 2, 3, 4, 5, 9, 13, 10, 11, 12], rfl, (), ?_, rfl, ⟨.inr rfl, .inr rfl, .inr rfl, .inr rfl, .inr rfl, .inr rfl, trivial⟩, ⟨.inr rfl, .inr rfl, .inr rfl, .inr rfl, .inr rfl, .inr rfl, trivial⟩⟩)
         | (refine ⟨[0, 1, 2, 3, 4, 5, 13, 9, 10, 11, 12], rfl, (), ?_, rfl, ⟨.inr rfl, .inr rfl, .inr rfl, .inr rfl, .inr rfl, .inr rfl, trivial⟩, ⟨.inr rfl, .inr rfl, .inr rfl, .inr rfl, .inr rfl, .inr rfl, trivial⟩⟩)
         | (refine ⟨[0, 1, 2, 3, 4, 5, 9, 10, 11, 12, 13], rfl, (), ?_, rfl, ⟨.inr rfl, .inr rfl, .inr rfl, .inr rfl, .inr rfl, .inr rfl, trivial⟩, ⟨.inr rfl, .inr rfl, .inr rfl, .inr rfl, .inr rfl, .inr rfl, trivial⟩⟩)
         | (refine ⟨[0, 1, 2, 3, 4, 5, 10, 9, 11, 12, 13], rfl, (), ?_, rfl, ⟨.inr rfl, .inr rfl, .inr rfl, .inr rfl, .inr rfl, .inr rfl, trivial⟩, ⟨.inr rfl, .inr rfl, .inr rfl, .inr rfl, .inr rfl, .inr rfl, trivial⟩⟩)
         | (refine ⟨[0, 1, 2, 3, 4, 5, 6, 13, 10, 11, 12], rfl, (), ?_, rfl, ⟨.inr rfl, .inr rfl, .inr rfl, .inr rfl, .inr rfl, .inr rfl, trivial⟩, ⟨.inr rfl, .inr rfl, .inr rfl, .inr rfl, .inr rfl, .inr rfl, trivial⟩⟩)
         | (refine ⟨[0, 1, 2, 3, 4, 5, 13, 6, 10, 11, 12], rfl, (), ?_, rfl, ⟨.inr rfl, .inr rfl, .inr rfl, .inr rfl, .inr rfl, .inr rfl, trivial⟩, ⟨.inr rfl, .inr rfl, .inr rfl, .inr rfl, .inr rfl, .inr rfl, trivial⟩⟩)
         | (refine ⟨[0, 1, 2, 3, 4, 5, 6, 10, 11, 12, 13], rfl, (), ?_, rfl, ⟨.inr rfl, .inr rfl, .inr rfl, .inr rfl, .inr rfl, .inr rfl, trivial⟩, ⟨.inr rfl, .inr rfl, .inr rfl, .inr rfl, .inr rfl, .inr rfl, trivial⟩⟩)
         | (refine ⟨[0, 1, 2, 3, 4, 5, 10, 6, 11, 12, 13], rfl, (), ?_, rfl, ⟨.inr rfl, .inr rfl, .inr rfl, .inr rfl, .inr rfl, .inr rfl, trivial⟩, ⟨.inr rfl, .inr rfl, .inr rfl, .inr rfl, .inr rfl, .inr rfl, trivial⟩⟩)
         | (refine ⟨[0, 1, 2, 3, 4, 5, 6, 7, 11, 12, 13], rfl, (), ?_, rfl, ⟨.inr rfl, .inr rfl, .inr rfl, .inr rfl, .inr rfl, .inr rfl, trivial⟩, ⟨.inr rfl, .inr rfl, .inr rfl, .inr rfl, .inr rfl, .inr rfl, trivial⟩⟩)
         | (refine ⟨[0, 1, 2, 3, 4, 5, 7, 6, 11, 12, 13], rfl, (), ?_, rfl, ⟨.inr rfl, .inr rfl, .inr rfl, .inr rfl, .inr rfl, .inr rfl, trivial⟩, ⟨.inr rfl, .inr rfl, .inr rfl, .inr rfl, .inr rfl, .inr rfl, trivial⟩⟩)
        trivial
       ·refine s_heavy 9 rfl rfl rfl (V_alloc rfl za_34 ?_)
        refine t_heavy 8 rfl rfl rfl (V_alloc rfl za_29 ?_)
        refine t_turn 10 rfl rfl (EOp_store rfl rfl rfl (by first | exact s_bp ty_29 | exact s_ep ty_29) ?_)
        refine t_turn 11 rfl rfl (EOp_store rfl rfl rfl (by first | exact s_bp ty_34 | exact s_ep ty_34) ?_)
        refine T_done (by kernel_rfl) ?_
        skip
        first
         | (refine ⟨[0, 1, 2, 3, 4, 5, 12, 13, 9, 10, 11], rfl, (), ?_, rfl, ⟨.inr rfl, .inr rfl, .inr rfl, .inr rfl, .inr rfl, .inr rfl, trivial⟩, ⟨.inr rfl, .inr rfl, .inr rfl, .inr rfl, .inr rfl, .inr rfl, trivial⟩⟩)
         | (refine ⟨[0, 1, 2, 3, 4, 5, 13, 12, 9, 10, 11], rfl, (), ?_, rfl, ⟨.inr rfl, .inr rfl, .inr rfl, .inr rfl, .inr rfl, .inr rfl, trivial⟩, ⟨.inr rfl, .inr rfl, .inr rfl, .inr rfl, .inr rfl, .inr rfl, trivial⟩⟩)
         | (refine ⟨[0, 1, 2, 3, 4, 5, 9, 13, 10, 11, 12], rfl, (), ?_, rfl, ⟨.inr rfl, .inr rfl, .inr rfl, .inr rfl, .inr rfl, .inr rfl, trivial⟩, ⟨.inr rfl, .inr rfl, .inr rfl, .inr rfl, .inr rfl, .inr rfl, trivial⟩⟩)
         | (refine ⟨[0, 1, 2, 3, 4, 5, 13, 9, 10, 11, 12], rfl, (), ?_, rfl, ⟨.inr rfl, .inr rfl, .inr rfl, .inr rfl, .inr rfl, .inr rfl, trivial⟩, ⟨.inr rfl, .inr rfl, .inr rfl, .inr rfl, .inr rfl, .inr rfl, trivial⟩⟩)
         | (refine ⟨[0, 1, 2, 3, 4, 5, 9, 10, 11, 12, 13], rfl, (), ?_, rfl, ⟨.inr rfl, .inr rfl, .inr rfl, .inr rfl, .inr rfl, .inr rfl, trivial⟩, ⟨.inr rfl, .inr rfl, .inr rfl, .inr rfl, .inr rfl, .inr rfl, trivial⟩⟩)
         | (refine ⟨[0, 1, 2, 3, 4, 5, 10, 9, 11, 12, 13], rfl, (), ?_, rfl, ⟨.inr rfl, .inr rfl, .inr rfl, .inr rfl, .inr rfl, .inr rfl, trivial⟩, ⟨.inr rfl, .inr rfl, .inr rfl, .inr rfl, .inr rfl, .inr rfl, trivial⟩⟩)
         | (refine ⟨[0, 1, 2, 3, 4, 5, 6, 13, 10, 11, 12], rfl, (), ?_, rfl, ⟨.inr rfl, .inr rfl, .inr rfl, .inr rfl, .inr rfl, .inr rfl, trivial⟩, ⟨.inr rfl, .inr rfl, .inr rfl, .inr rfl, .inr rfl, .inr rfl, trivial⟩⟩)
         | (refine ⟨[0, 1, 2, 3, 4, 5, 13, 6, 10, 11, 12], rfl, (), ?_, rfl, ⟨.inr rfl, .inr rfl, .inr rfl, .inr rfl, .inr rfl, .inr rfl, trivial⟩, ⟨.inr rfl, .inr rfl, .inr rfl, .inr rfl, .inr rfl, .inr rfl, trivial⟩⟩)
         | (refine ⟨[0, 1, 2, 3, 4, 5, 6, 10, 11, 12, 13], rfl, (), ?_, rfl, ⟨.inr rfl, .inr rfl, .inr rfl, .inr rfl, .inr rfl, .inr rfl, trivial⟩, ⟨.inr rfl, .inr rfl, .inr rfl, .inr rfl, .inr rfl, .inr rfl, trivial⟩⟩)
         | (refine ⟨[0, 1, 2, 3, 4, 5, 10, 6, 11, 12, 13], rfl, (), ?_, rfl, ⟨.inr rfl, .inr rfl, .inr rfl, .inr rfl, .inr rfl, .inr rfl, trivial⟩, ⟨.inr rfl, .inr rfl, .inr rfl, .inr rfl, .inr rfl, .inr rfl, trivial⟩⟩)
         | (refine ⟨[0, 1, 2, 3, 4, 5, 6, 7, 11, 12, 13], rfl, (), ?_, rfl, ⟨.inr rfl, .inr rfl, .inr rfl, .inr rfl, .inr rfl, .inr rfl, trivial⟩, ⟨.inr rfl, .inr rfl, .inr rfl, .inr rfl, .inr rfl, .inr rfl, trivial⟩⟩)
         | (refine ⟨[0, 1, 2, 3, 4, 5, 7, 6, 11, 12, 13], rfl, (), ?_, rfl, ⟨.inr rfl, .inr rfl, .inr rfl, .inr rfl, .inr rfl, .inr rfl, trivial⟩, ⟨.inr rfl, .inr rfl, .inr rfl, .inr rfl, .inr rfl, .inr rfl, trivial⟩⟩)
        trivial
      ·refine s_heavy 8 rfl rfl rfl (V_alloc rfl za_29 ?_)
       refine t_two 4 9 ?_ ?_
       ·first
         | (refine s_frame 4 [5, 4, 6, 7, 8] rfl rfl rfl rfl rfl ca_50 rfl (c_spec_l7With 0 c s v [] 0 hc hs hv (okL_nil 0) (by omega)) ?_)
         | (refine s_frame 4 [5, 4, 7, 8, 9] rfl rfl rfl rfl rfl ca_50 rfl (c_spec_l7With 0 c s v [] 0 hc hs hv (okL_nil 0) (by omega)) ?_)
         | (refine s_frame 4 [5, 4, 8, 9, 10] rfl rfl rfl rfl rfl ca_50 rfl (c_spec_l7With 0 c s v [] 0 hc hs hv (okL_nil 0) (by omega)) ?_)
        rintro r S ⟨r0, S0, ⟨rfl, rfl⟩, rfl, rfl⟩
        refine t_old 5 rfl rfl rfl (L_move rfl) ?_
        refine t_old 6 rfl rfl rfl (L_extract rfl rfl) ?_
        refine t_old 7 rfl rfl rfl (L_extract rfl rfl) ?_
        refine t_heavy 9 rfl rfl rfl (V_alloc rfl za_34 ?_)
        refine t_turn 10 rfl rfl (EOp_store rfl rfl rfl (by first | exact s_bp ty_29 | exact s_ep ty_29) ?_)
        refine t_turn 11 rfl rfl (EOp_store rfl rfl rfl (by first | exact s_bp ty_34 | exact s_ep ty_34) ?_)
        refine T_done (by kernel_rfl) ?_
        skip
        first
         | (refine ⟨[0, 1, 2, 3, 4, 5, 12, 13, 9, 10, 11], rfl, (), ?_, rfl, ⟨.inr rfl, .inr rfl, .inr rfl, .inr rfl, .inr rfl, .inr rfl, trivial⟩, ⟨.inr rfl, .inr rfl, .inr rfl, .inr rfl, .inr rfl, .inr rfl, trivial⟩⟩)
         | (refine ⟨[0, 1, 2, 3, 4, 5, 13, 12, 9, 10, 11], rfl, (), ?_, rfl, ⟨.inr rfl, .inr rfl, .inr rfl, .inr rfl, .inr rfl, .inr rfl, trivial⟩, ⟨.inr rfl, .inr rfl, .inr rfl, .inr rfl, .inr rfl, .inr rfl, trivial⟩⟩)
         | (refine ⟨[0, 1, 2, 3, 4, 5, 9, 13, 10, 11, 12], rfl, (), ?_, rfl, ⟨.inr rfl, .inr rfl, .inr rfl, .inr rfl, .inr rfl, .inr rfl, trivial⟩, ⟨.inr rfl, .inr rfl, .inr rfl, .inr rfl, .inr rfl, .inr rfl, trivial⟩⟩)
         | (refine ⟨[0, 1, 2, 3, 4, 5, 13, 9, 10, 11, 12], rfl, (), ?_, rfl, ⟨.inr rfl, .inr rfl, .inr rfl, .inr rfl, .inr rfl, .inr rfl, trivial⟩, ⟨.inr rfl, .inr rfl, .inr rfl, .inr rfl, .inr rfl, .inr rfl, trivial⟩⟩)
         | (refine ⟨[0, 1, 2, 3, 4, 5, 9, 10, 11, 12, 13], rfl, (), ?_, rfl, ⟨.inr rfl, .inr rfl, .inr rfl, .inr rfl, .inr rfl, .inr rfl, trivial⟩, ⟨.inr rfl, .inr rfl, .inr rfl, .inr rfl, .inr rfl, .inr rfl, trivial⟩⟩)
         | (refine ⟨[0, 1, 2, 3, 4, 5, 10, 9, 11, 12, 13], rfl, (), ?_, rfl, ⟨.inr rfl, .inr rfl, .inr rfl, .inr rfl, .inr rfl, .inr rfl, trivial⟩, ⟨.inr rfl, .inr rfl, .inr rfl, .inr rfl, .inr rfl, .inr rfl, trivial⟩⟩)
         | (refine ⟨[0, 1, 2, 3, 4, 5, 6, 13, 10, 11, 12], rfl, (), ?_, rfl, ⟨.inr rfl, .inr rfl, .inr rfl, .inr rfl, .inr rfl, .inr rfl, trivial⟩, ⟨.inr rfl, .inr rfl, .inr rfl, .inr rfl, .inr rfl, .inr rfl, trivial⟩⟩)
         | (refine ⟨[0, 1, 2, 3, 4, 5, 13, 6, 10, 11, 12], rfl, (), ?_, rfl, ⟨.inr rfl, .inr rfl, .inr rfl, .inr rfl, .inr rfl, .inr rfl, trivial⟩, ⟨.inr rfl, .inr rfl, .inr rfl, .inr rfl, .inr rfl, .inr rfl, trivial⟩⟩)
         | (refine ⟨[0, 1, 2, 3, 4, 5, 6, 10, 11, 12, 13], rfl, (), ?_, rfl, ⟨.inr rfl, .inr rfl, .inr rfl, .inr rfl, .inr rfl, .inr rfl, trivial⟩, ⟨.inr rfl, .inr rfl, .inr rfl, .inr rfl, .inr rfl, .inr rfl, trivial⟩⟩)
         | (refine ⟨[0, 1, 2, 3, 4, 5, 10, 6, 11, 12, 13], rfl, (), ?_, rfl, ⟨.inr rfl, .inr rfl, .inr rfl, .inr rfl, .inr rfl, .inr rfl, trivial⟩, ⟨.inr rfl, .inr rfl, .inr rfl, .inr rfl, .inr rfl, .inr rfl, trivial⟩⟩)
         | (refine ⟨[0, 1, 2, 3, 4, 5, 6, 7, 11, 12, 13], rfl, (), ?_, rfl, ⟨.inr rfl, .inr rfl, .inr rfl, .inr rfl, .inr rfl, .inr rfl, trivial⟩, ⟨.inr rfl, .inr rfl, .inr rfl, .inr rfl, .inr rfl, .inr rfl, trivial⟩⟩)
         | (refine ⟨[0, 1, 2, 3, 4, 5, 7, 6, 11, 12, 13], rfl, (), ?_, rfl, ⟨.inr rfl, .inr rfl, .inr rfl, .inr rfl, .inr rfl, .inr rfl, trivial⟩, ⟨.inr rfl, .inr rfl, .inr rfl, .inr rfl, .inr rfl, .inr rfl, trivial⟩⟩)
        trivial
       ·refine s_heavy 9 rfl rfl rfl (V_alloc rfl za_34 ?_)
        first
         | (refine t_frame 4 [5, 4, 6, 7, 8] rfl rfl rfl rfl rfl ca_50 rfl (c_spec_l7With 0 c s v [] 0 hc hs hv (okL_nil 0) (by omega)) ?_)
         | (refine t_frame 4 [5, 4, 7, 8, 9] rfl rfl rfl rfl rfl ca_50 rfl (c_spec_l7With 0 c s v [] 0 hc hs hv (okL_nil 0) (by omega)) ?_)
         | (refine t_frame 4 [5, 4, 8, 9, 10] rfl rfl rfl rfl rfl ca_50 rfl (c_spec_l7With 0 c s v [] 0 hc hs hv (okL_nil 0) (by omega)) ?_)
        rintro r S ⟨r0, S0, ⟨rfl, rfl⟩, rfl, rfl⟩
        refine t_pure 5 rfl rfl rfl (L_move rfl) ?_
        refine t_pure 6 rfl rfl rfl (L_extract rfl rfl) ?_
        refine t_pure 7 rfl rfl rfl (L_extract rfl rfl) ?_
        refine t_turn 10 rfl rfl (EOp_store rfl rfl rfl (by first | exact s_bp ty_29 | exact s_ep ty_29) ?_)
        refine t_turn 11 rfl rfl (EOp_store rfl rfl rfl (by first | exact s_bp ty_34 | exact s_ep ty_34) ?_)
        refine T_done (by kernel_rfl) ?_
        skip
        first
         | (refine ⟨[0, 1, 2, 3, 4, 5, 12, 13, 9, 10, 11], rfl, (), ?_, rfl, ⟨.inr rfl, .inr rfl, .inr rfl, .inr rfl, .inr rfl, .inr rfl, trivial⟩, ⟨.inr rfl, .inr rfl, .inr rfl, .inr rfl, .inr rfl, .inr rfl, trivial⟩⟩)
         | (refine ⟨[0, 1, 2, 3, 4, 5, 13, 12, 9, 10, 11], rfl, (), ?_, rfl, ⟨.inr rfl, .inr rfl, .inr rfl, .inr rfl, .inr rfl, .inr rfl, trivial⟩, ⟨.inr rfl, .inr rfl, .inr rfl, .inr rfl, .inr rfl, .inr rfl, trivial⟩⟩)
         | (refine ⟨[0, 1, 2, 3, 4, 5, 9, 13, 10, 11, 12], rfl, (), ?_, rfl, ⟨.inr rfl, .inr rfl, .inr rfl, .inr rfl, .inr rfl, .inr rfl, trivial⟩, ⟨.inr rfl, .inr rfl, .inr rfl, .inr rfl, .inr rfl, .inr rfl, trivial⟩⟩)
         | (refine ⟨[0, 1, 2, 3, 4, 5, 13, 9, 10, 11, 12], rfl, (), ?_, rfl, ⟨.inr rfl, .inr rfl, .inr rfl, .inr rfl, .inr rfl, .inr rfl, trivial⟩, ⟨.inr rfl, .inr rfl, .inr rfl, .inr rfl, .inr rfl, .inr rfl, trivial⟩⟩)
         | (refine ⟨[0, 1, 2, 3, 4, 5, 9, 10, 11, 12, 13], rfl, (), ?_, rfl, ⟨.inr rfl, .inr rfl, .inr rfl, .inr rfl, .inr rfl, .inr rfl, trivial⟩, ⟨.inr rfl, .inr rfl, .inr rfl, .inr rfl, .inr rfl, .inr rfl, trivial⟩⟩)
         | (refine ⟨[0, 1, 2, 3, 4, 5, 10, 9, 11, 12, 13], rfl, (), ?_, rfl, ⟨.inr rfl, .inr rfl, .inr rfl, .inr rfl, .inr rfl, .inr rfl, trivial⟩, ⟨.inr rfl, .inr rfl, .inr rfl, .inr rfl, .inr rfl, .inr rfl, trivial⟩⟩)
         | (refine ⟨[0, 1, 2, 3, 4, 5, 6, 13, 10, 11, 12], rfl, (), ?_, rfl, ⟨.inr rfl, .inr rfl, .inr rfl, .inr rfl, .inr rfl, .inr rfl, trivial⟩, ⟨.inr rfl, .inr rfl, .inr rfl, .inr rfl, .inr rfl, .inr rfl, trivial⟩⟩)
         | (refine ⟨[0, 1, 2, 3, 4, 5, 13, 6, 10, 11, 12], rfl, (), ?_, rfl, ⟨.inr rfl, .inr rfl, .inr rfl, .inr rfl, .inr rfl, .inr rfl, trivial⟩, ⟨.inr rfl, .inr rfl, .inr rfl, .inr rfl, .inr rfl, .inr rfl, trivial⟩⟩)
         | (refine ⟨[0, 1, 2, 3, 4, 5, 6, 10, 11, 12, 13], rfl, (), ?_, rfl, ⟨.inr rfl, .inr rfl, .inr rfl, .inr rfl, .inr rfl, .inr rfl, trivial⟩, ⟨.inr rfl, .inr rfl, .inr rfl, .inr rfl, .inr rfl, .inr rfl, trivial⟩⟩)
         | (refine ⟨[0, 1, 2, 3, 4, 5, 10, 6, 11, 12, 13], rfl, (), ?_, rfl, ⟨.inr rfl, .inr rfl, .inr rfl, .inr rfl, .inr rfl, .inr rfl, trivial⟩, ⟨.inr rfl, .inr rfl, .inr rfl, .inr rfl, .inr rfl, .inr rfl, trivial⟩⟩)
         | (refine ⟨[0, 1, 2, 3, 4, 5, 6, 7, 11, 12, 13], rfl, (), ?_, rfl, ⟨.inr rfl, .inr rfl, .inr rfl, .inr rfl, .inr rfl, .inr rfl, trivial⟩, ⟨.inr rfl, .inr rfl, .inr rfl, .inr rfl, .inr rfl, .inr rfl, trivial⟩⟩)
         | (refine ⟨[0, 1, 2, 3, 4, 5, 7, 6, 11, 12, 13], rfl, (), ?_, rfl, ⟨.inr rfl, .inr rfl, .inr rfl, .inr rfl, .inr rfl, .inr rfl, trivial⟩, ⟨.inr rfl, .inr rfl, .inr rfl, .inr rfl, .inr rfl, .inr rfl, trivial⟩⟩)
        trivial
      ·refine s_heavy 9 rfl rfl rfl (V_alloc rfl za_34 ?_)
       refine t_two 4 8 ?_ ?_
       ·first
         | (refine s_frame 4 [5, 4, 6, 7, 8] rfl rfl rfl rfl rfl ca_50 rfl (c_spec_l7With 0 c s v [] 0 hc hs hv (okL_nil 0) (by omega)) ?_)
         | (refine s_frame 4 [5, 4, 7, 8, 9] rfl rfl rfl rfl rfl ca_50 rfl (c_spec_l7With 0 c s v [] 0 hc hs hv (okL_nil 0) (by omega)) ?_)
         | (refine s_frame 4 [5, 4, 8, 9, 10] rfl rfl rfl rfl rfl ca_50 rfl (c_spec_l7With 0 c s v [] 0 hc hs hv (okL_nil 0) (by omega)) ?_)
        rintro r S ⟨r0, S0, ⟨rfl, rfl⟩, rfl, rfl⟩
        refine t_old 5 rfl rfl rfl (L_move rfl) ?_
        refine t_old 6 rfl rfl rfl (L_extract rfl rfl) ?_
        refine t_old 7 rfl rfl rfl (L_extract rfl rfl) ?_
        refine t_heavy 8 rfl rfl rfl (V_alloc rfl za_29 ?_)
        refine t_turn 10 rfl rfl (EOp_store rfl rfl rfl (by first | exact s_bp ty_29 | exact s_ep ty_29) ?_)
        refine t_turn 11 rfl rfl (EOp_store rfl rfl rfl (by first | exact s_bp ty_34 | exact s_ep ty_34) ?_)
        refine T_done (by kernel_rfl) ?_
        skip
        first
         | (refine ⟨[0, 1, 2, 3, 4, 5, 12, 13, 9, 10, 11], rfl, (), ?_, rfl, ⟨.inr rfl, .inr rfl, .inr rfl, .inr rfl, .inr rfl, .inr rfl, trivial⟩, ⟨.inr rfl, .inr rfl, .inr rfl, .inr rfl, .inr rfl, .inr rfl, trivial⟩⟩)
         | (refine ⟨[0, 1, 2, 3, 4, 5, 13, 12, 9, 10, 11], rfl, (), ?_, rfl, ⟨.inr rfl, .inr rfl, .inr rfl, .inr rfl, .inr rfl, .inr rfl, trivial⟩, ⟨.inr rfl, .inr rfl, .inr rfl, .inr rfl, .inr rfl, .inr rfl, trivial⟩⟩)
         | (refine ⟨[0, 1, 2, 3, 4, 5, 9, 13, 10, 11, 12], rfl, (), ?_, rfl, ⟨.inr rfl, .inr rfl, .inr rfl, .inr rfl, .inr rfl, .inr rfl, trivial⟩, ⟨.inr rfl, .inr rfl, .inr rfl, .inr rfl, .inr rfl, .inr rfl, trivial⟩⟩)
         | (refine ⟨[0, 1, 2, 3, 4, 5, 13, 9, 10, 11, 12], rfl, (), ?_, rfl, ⟨.inr rfl, .inr rfl, .inr rfl, .inr rfl, .inr rfl, .inr rfl, trivial⟩, ⟨.inr rfl, .inr rfl, .inr rfl, .inr rfl, .inr rfl, .inr rfl, trivial⟩⟩)
         | (refine ⟨[0, 1, 2, 3, 4, 5, 9, 10, 11, 12, 13], rfl, (), ?_, rfl, ⟨.inr rfl, .inr rfl, .inr rfl, .inr rfl, .inr rfl, .inr rfl, trivial⟩, ⟨.inr rfl, .inr rfl, .inr rfl, .inr rfl, .inr rfl, .inr rfl, trivial⟩⟩)
         | (refine ⟨[0, 1, 2, 3, 4, 5, 10, 9, 11, 12, 13], rfl, (), ?_, rfl, ⟨.inr rfl, .inr rfl, .inr rfl, .inr rfl, .inr rfl, .inr rfl, trivial⟩, ⟨.inr rfl, .inr rfl, .inr rfl, .inr rfl, .inr rfl, .inr rfl, trivial⟩⟩)
         | (refine ⟨[0, 1, 2, 3, 4, 5, 6, 13, 10, 11, 12], rfl, (), ?_, rfl, ⟨.inr rfl, .inr rfl, .inr rfl, .inr rfl, .inr rfl, .inr rfl, trivial⟩, ⟨.inr rfl, .inr rfl, .inr rfl, .inr rfl, .inr rfl, .inr rfl, trivial⟩⟩)
         | (refine ⟨[0, 1, 2, 3, 4, 5, 13, 6, 10, 11, 12], rfl, (), ?_, rfl, ⟨.inr rfl, .inr rfl, .inr rfl, .inr rfl, .inr rfl, .inr rfl, trivial⟩, ⟨.inr rfl, .inr rfl, .inr rfl, .inr rfl, .inr rfl, .inr rfl, trivial⟩⟩)
         | (refine ⟨[0, 1, 2, 3, 4, 5, 6, 10, 11, 12, 13], rfl, (), ?_, rfl, ⟨.inr rfl, .inr rfl, .inr rfl, .inr rfl, .inr rfl, .inr rfl, trivial⟩, ⟨.inr rfl, .inr rfl, .inr rfl, .inr rfl, .inr rfl, .inr rfl, trivial⟩⟩)
         | (refine ⟨[0, 1, 2, 3, 4, 5, 10, 6, 11, 12, 13], rfl, (), ?_, rfl, ⟨.inr rfl, .inr rfl, .inr rfl, .inr rfl, .inr rfl, .inr rfl, trivial⟩, ⟨.inr rfl, .inr rfl, .inr rfl, .inr rfl, .inr rfl, .inr rfl, trivial⟩⟩)
         | (refine ⟨[0, 1, 2, 3, 4, 5, 6, 7, 11, 12, 13], rfl, (), ?_, rfl, ⟨.inr rfl, .inr rfl, .inr rfl, .inr rfl, .inr rfl, .inr rfl, trivial⟩, ⟨.inr rfl, .inr rfl, .inr rfl, .inr rfl, .inr rfl, .inr rfl, trivial⟩⟩)
         | (refine ⟨[0, 1, 2, 3, 4, 5, 7, 6, 11, 12, 13], rfl, (), ?_, rfl, ⟨.inr rfl, .inr rfl, .inr rfl, .inr rfl, .inr rfl, .inr rfl, trivial⟩, ⟨.inr rfl, .inr rfl, .inr rfl, .inr rfl, .inr rfl, .inr rfl, trivial⟩⟩)
        trivial
       ·refine s_heavy 8 rfl rfl rfl (V_alloc rfl za_29 ?_)
        first
         | (refine t_frame 4 [5, 4, 6, 7, 8] rfl rfl rfl rfl rfl ca_50 rfl (c_spec_l7With 0 c s v [] 0 hc hs hv (okL_nil 0) (by omega)) ?_)
         | (refine t_frame 4 [5, 4, 7, 8, 9] rfl rfl rfl rfl rfl ca_50 rfl (c_spec_l7With 0 c s v [] 0 hc hs hv (okL_nil 0) (by omega)) ?_)
         | (refine t_frame 4 [5, 4, 8, 9, 10] rfl rfl rfl rfl rfl ca_50 rfl (c_spec_l7With 0 c s v [] 0 hc hs hv (okL_nil 0) (by omega)) ?_)
        rintro r S ⟨r0, S0, ⟨rfl, rfl⟩, rfl, rfl⟩
        refine t_pure 5 rfl rfl rfl (L_move rfl) ?_
        refine t_pure 6 rfl rfl rfl (L_extract rfl rfl) ?_
        refine t_pure 7 rfl rfl rfl (L_extract rfl rfl) ?_
        refine t_turn 10 rfl rfl (EOp_store rfl rfl rfl (by first | exact s_bp ty_29 | exact s_ep ty_29) ?_)
        refine t_turn 11 rfl rfl (EOp_store rfl rfl rfl (by first | exact s_bp ty_34 | exact s_ep ty_34) ?_)
        refine T_done (by kernel_rfl) ?_
        skip
        first
         | (refine ⟨[0, 1, 2, 3, 4, 5, 12, 13, 9, 10, 11], rfl, (), ?_, rfl, ⟨.inr rfl, .inr rfl, .inr rfl, .inr rfl, .inr rfl, .inr rfl, trivial⟩, ⟨.inr rfl, .inr rfl, .inr rfl, .inr rfl, .inr rfl, .inr rfl, trivial⟩⟩)
         | (refine ⟨[0, 1, 2, 3, 4, 5, 13, 12, 9, 10, 11], rfl, (), ?_, rfl, ⟨.inr rfl, .inr rfl, .inr rfl, .inr rfl, .inr rfl, .inr rfl, trivial⟩, ⟨.inr rfl, .inr rfl, .inr rfl, .inr rfl, .inr rfl, .inr rfl, trivial⟩⟩)
         | (refine ⟨[0, 1, 2, 3, 4, 5, 9, 13, 10, 11, 12], rfl, (), ?_, rfl, ⟨.inr rfl, .inr rfl, .inr rfl, .inr rfl, .inr rfl, .inr rfl, trivial⟩, ⟨.inr rfl, .inr rfl, .inr rfl, .inr rfl, .inr rfl, .inr rfl, trivial⟩⟩)
         | (refine ⟨[0, 1, 2, 3, 4, 5, 13, 9, 10, 11, 12], rfl, (), ?_, rfl, ⟨.inr rfl, .inr rfl, .inr rfl, .inr rfl, .inr rfl, .inr rfl, trivial⟩, ⟨.inr rfl, .inr rfl, .inr rfl, .inr rfl, .inr rfl, .inr rfl, trivial⟩⟩)
         | (refine ⟨[0, 1, 2, 3, 4, 5, 9, 10, 11, 12, 13], rfl, (), ?_, rfl, ⟨.inr rfl, .inr rfl, .inr rfl, .inr rfl, .inr rfl, .inr rfl, trivial⟩, ⟨.inr rfl, .inr rfl, .inr rfl, .inr rfl, .inr rfl, .inr rfl, trivial⟩⟩)
         | (refine ⟨[0, 1, 2, 3, 4, 5, 10, 9, 11, 12, 13], rfl, (), ?_, rfl, ⟨.inr rfl, .inr rfl, .inr rfl, .inr rfl, .inr rfl, .inr rfl, trivial⟩, ⟨.inr rfl, .inr rfl, .inr rfl, .inr rfl, .inr rfl, .inr rfl, trivial⟩⟩)
         | (refine ⟨[0, 1, 2, 3, 4, 5, 6, 13, 10, 11, 12], rfl, (), ?_, rfl, ⟨.inr rfl, .inr rfl, .inr rfl, .inr rfl, .inr rfl, .inr rfl, trivial⟩, ⟨.inr rfl, .inr rfl, .inr rfl, .inr rfl, .inr rfl, .inr rfl, trivial⟩⟩)
         | (refine ⟨[0, 1, 2, 3, 4, 5, 13, 6, 10, 11, 12], rfl, (), ?_, rfl, ⟨.inr rfl, .inr rfl, .inr rfl, .inr rfl, .inr rfl, .inr rfl, trivial⟩, ⟨.inr rfl, .inr rfl, .inr rfl, .inr rfl, .inr rfl, .inr rfl, trivial⟩⟩)
         | (refine ⟨[0, 1, 2, 3, 4, 5, 6, 10, 11, 12, 13], rfl, (), ?_, rfl, ⟨.inr rfl, .inr rfl, .inr rfl, .inr rfl, .inr rfl, .inr rfl, trivial⟩, ⟨.inr rfl, .inr rfl, .inr rfl, .inr rfl, .inr rfl, .inr rfl, trivial⟩⟩)
         | (refine ⟨[0, 1, 2, 3, 4, 5, 10, 6, 11, 12, 13], rfl, (), ?_, rfl, ⟨.inr rfl, .inr rfl, .inr rfl, .inr rfl, .inr rfl, .inr rfl, trivial⟩, ⟨.inr rfl, .inr rfl, .inr rfl, .inr rfl, .inr rfl, .inr rfl, trivial⟩⟩)
         | (refine ⟨[0, 1, 2, 3, 4, 5, 6, 7, 11, 12, 13], rfl, (), ?_, rfl, ⟨.inr rfl, .inr rfl, .inr rfl, .inr rfl, .inr rfl, .inr rfl, trivial⟩, ⟨.inr rfl, .inr rfl, .inr rfl, .inr rfl, .inr rfl, .inr rfl, trivial⟩⟩)
         | (refine ⟨[0, 1, 2, 3, 4, 5, 7, 6, 11, 12, 13], rfl, (), ?_, rfl, ⟨.inr rfl, .inr rfl, .inr rfl, .inr rfl, .inr rfl, .inr rfl, trivial⟩, ⟨.inr rfl, .inr rfl, .inr rfl, .inr rfl, .inr rfl, .inr rfl, trivial⟩⟩)
        trivial
     ·refine s_heavy 8 rfl rfl rfl (V_alloc rfl za_29 ?_)
      refine t_two 1 9 ?_ ?_
      ·refine s_call 1 rfl rfl rfl rfl rfl ca_37 (c_spec_l4Copy c hb) ?_
       rintro r S ⟨rfl, rfl⟩
       refine t_two 4 9 ?_ ?_
       ·first
         | (refine s_frame 4 [5, 4, 6, 7, 8] rfl rfl rfl rfl rfl ca_50 rfl (c_spec_l7With 0 c s v [] 0 hc hs hv (okL_nil 0) (by omega)) ?_)
         | (refine s_frame 4 [5, 4, 7, 8, 9] rfl rfl rfl rfl rfl ca_50 rfl (c_spec_l7With 0 c s v [] 0 hc hs hv (okL_nil 0) (by omega)) ?_)
         | (refine s_frame 4 [5, 4, 8, 9, 10] rfl rfl rfl rfl rfl ca_50 rfl (c_spec_l7With 0 c s v [] 0 hc hs hv (okL_nil 0) (by omega)) ?_)
        rintro r S ⟨r0, S0, ⟨rfl, rfl⟩, rfl, rfl⟩
        refine t_old 5 rfl rfl rfl (L_move rfl) ?_
        refine t_old 6 rfl rfl rfl (L_extract rfl rfl) ?_
        refine t_old 7 rfl rfl rfl (L_extract rfl rfl) ?_
        refine t_heavy 9 rfl rfl rfl (V_alloc rfl za_34 ?_)
        refine t_turn 10 rfl rfl (EOp_store rfl rfl rfl (by first | exact s_bp ty_29 | exact s_ep ty_29) ?_)
        refine t_turn 11 rfl rfl (EOp_store rfl rfl rfl (by first | exact s_bp ty_34 | exact s_ep ty_34) ?_)
        refine T_done (by kernel_rfl) ?_
        skip
        first
         | (refine ⟨[0, 1, 2, 3, 4, 5, 12, 13, 9, 10, 11], rfl, (), ?_, rfl, ⟨.inr rfl, .inr rfl, .inr rfl, .inr rfl, .inr rfl, .inr rfl, trivial⟩, ⟨.inr rfl, .inr rfl, .inr rfl, .inr rfl, .inr rfl, .inr rfl, trivial⟩⟩)
         | (refine ⟨[0, 1, 2, 3, 4, 5, 13, 12, 9, 10, 11], rfl, (), ?_, rfl, ⟨.inr rfl, .inr rfl, .inr rfl, .inr rfl, .inr rfl, .inr rfl, trivial⟩, ⟨.inr rfl, .inr rfl, .inr rfl, .inr rfl, .inr rfl, .inr rfl, trivial⟩⟩)
         | (refine ⟨[0, 1, 2, 3, 4, 5, 9, 13, 10, 11, 12], rfl, (), ?_, rfl, ⟨.inr rfl, .inr rfl, .inr rfl, .inr rfl, .inr rfl, .inr rfl, trivial⟩, ⟨.inr rfl, .inr rfl, .inr rfl, .inr rfl, .inr rfl, .inr rfl, trivial⟩⟩)
         | (refine ⟨[0, 1, 2, 3, 4, 5, 13, 9, 10, 11, 12], rfl, (), ?_, rfl, ⟨.inr rfl, .inr rfl, .inr rfl, .inr rfl, .inr rfl, .inr rfl, trivial⟩, ⟨.inr rfl, .inr rfl, .inr rfl, .inr rfl, .inr rfl, .inr rfl, trivial⟩⟩)
         | (refine ⟨[0, 1, 2, 3, 4, 5, 9, 10, 11, 12, 13], rfl, (), ?_, rfl, ⟨.inr rfl, .inr rfl, .inr rfl, .inr rfl, .inr rfl, .inr rfl, trivial⟩, ⟨.inr rfl, .inr rfl, .inr rfl, .inr rfl, .inr rfl, .inr rfl, trivial⟩⟩)
         | (refine ⟨[0, 1, 2, 3, 4, 5, 10, 9, 11, 12, 13], rfl, (), ?_, rfl, ⟨.inr rfl, .inr rfl, .inr rfl, .inr rfl, .inr rfl, .inr rfl, trivial⟩, ⟨.inr rfl, .inr rfl, .inr rfl, .inr rfl, .inr rfl, .inr rfl, trivial⟩⟩)
         | (refine ⟨[0, 1, 2, 3, 4, 5, 6, 13, 10, 11, 12], rfl, (), ?_, rfl, ⟨.inr rfl, .inr rfl, .inr rfl, .inr rfl, .inr rfl, .inr rfl, trivial⟩, ⟨.inr rfl, .inr rfl, .inr rfl, .inr rfl, .inr rfl, .inr rfl, trivial⟩⟩)
         | (refine ⟨[0, 1, 2, 3, 4, 5, 13, 6, 10, 11, 12], rfl, (), ?_, rfl, ⟨.inr rfl, .inr rfl, .inr rfl, .inr rfl, .inr rfl, .inr rfl, trivial⟩, ⟨.inr rfl, .inr rfl, .inr rfl, .inr rfl, .inr rfl, .inr rfl, trivial⟩⟩)
         | (refine ⟨[0, 1, 2, 3, 4, 5, 6, 10, 11, 12, 13], rfl, (), ?_, rfl, ⟨.inr rfl, .inr rfl, .inr rfl, .inr rfl, .inr rfl, .inr rfl, trivial⟩, ⟨.inr rfl, .inr rfl, .inr rfl, .inr rfl, .inr rfl, .inr rfl, trivial⟩⟩)
         | (refine ⟨[0, 1, 2, 3, 4, 5, 10, 6, 11, 12, 13], rfl, (), ?_, rfl, ⟨.inr rfl, .inr rfl, .inr rfl, .inr rfl, .inr rfl, .inr rfl, trivial⟩, ⟨.inr rfl, .inr rfl, .inr rfl, .inr rfl, .inr rfl, .inr rfl, trivial⟩⟩)
         | (refine ⟨[0, 1, 2, 3, 4, 5, 6, 7, 11, 12, 13], rfl, (), ?_, rfl, ⟨.inr rfl, .inr rfl, .inr rfl, .inr rfl, .inr rfl, .inr rfl, trivial⟩, ⟨.inr rfl, .inr rfl, .inr rfl, .inr rfl, .inr rfl, .inr rfl, trivial⟩⟩)
         | (refine ⟨[0, 1, 2, 3, 4, 5, 7, 6, 11, 12, 13], rfl, (), ?_, rfl, ⟨.inr rfl, .inr rfl, .inr rfl, .inr rfl, .inr rfl, .inr rfl, trivial⟩, ⟨.inr rfl, .inr rfl, .inr rfl, .inr rfl, .inr rfl, .inr rfl, trivial⟩⟩)
        trivial
       ·refine s_heavy 9 rfl rfl rfl (V_alloc rfl za_34 ?_)
        first
         | (refine t_frame 4 [5, 4, 6, 7, 8] rfl rfl rfl rfl rfl ca_50 rfl (c_spec_l7With 0 c s v [] 0 hc hs hv (okL_nil 0) (by omega)) ?_)
         | (refine t_frame 4 [5, 4, 7, 8, 9] rfl rfl rfl rfl rfl ca_50 rfl (c_spec_l7With 0 c s v [] 0 hc hs hv (okL_nil 0) (by omega)) ?_)
         | (refine t_frame 4 [5, 4, 8, 9, 10] rfl rfl rfl rfl rfl ca_50 rfl (c_spec_l7With 0 c s v [] 0 hc hs hv (okL_nil 0) (by omega)) ?_)
        rintro r S ⟨r0, S0, ⟨rfl, rfl⟩, rfl, rfl⟩
        refine t_pure 5 rfl rfl rfl (L_move rfl) ?_
        refine t_pure 6 rfl rfl rfl (L_extract rfl rfl) ?_
        refine t_pure 7 rfl rfl rfl (L_extract rfl rfl) ?_
        refine t_turn 10 rfl rfl (EOp_store rfl rfl rfl (by first | exact s_bp ty_29 | exact s_ep ty_29) ?_)
        refine t_turn 11 rfl rfl (EOp_store rfl rfl rfl (by first | exact s_bp ty_34 | exact s_ep ty_34) ?_)
        refine T_done (by kernel_rfl) ?_
        skip
        first
         | (refine ⟨[0, 1, 2, 3, 4, 5, 12, 13, 9, 10, 11], rfl, (), ?_, rfl, ⟨.inr rfl, .inr rfl, .inr rfl, .inr rfl, .inr rfl, .inr rfl, trivial⟩, ⟨.inr rfl, .inr rfl, .inr rfl, .inr rfl, .inr rfl, .inr rfl, trivial⟩⟩)
         | (refine ⟨[0, 1, 2, 3, 4, 5, 13, 12, 9, 10, 11], rfl, (), ?_, rfl, ⟨.inr rfl, .inr rfl, .inr rfl, .inr rfl, .inr rfl, .inr rfl, trivial⟩, ⟨.inr rfl, .inr rfl, .inr rfl, .inr rfl, .inr rfl, .inr rfl, trivial⟩⟩)
         | (refine ⟨[0, 1, 2, 3, 4, 5, 9, 13, 10, 11, 12], rfl, (), ?_, rfl, ⟨.inr rfl, .inr rfl, .inr rfl, .inr rfl, .inr rfl, .inr rfl, trivial⟩, ⟨.inr rfl, .inr rfl, .inr rfl, .inr rfl, .inr rfl, .inr rfl, trivial⟩⟩)
         | (refine ⟨[0, 1, 2, 3, 4, 5, 13, 9, 10, 11, 12], rfl, (), ?_, rfl, ⟨.inr rfl, .inr rfl, .inr rfl, .inr rfl, .inr rfl, .inr rfl, trivial⟩, ⟨.inr rfl, .inr rfl, .inr rfl, .inr rfl, .inr rfl, .inr rfl, trivial⟩⟩)
         | (refine ⟨[0, 1, 2, 3, 4, 5, 9, 10, 11, 12, 13], rfl, (), ?_, rfl, ⟨.inr rfl, .inr rfl, .inr rfl, .inr rfl, .inr rfl, .inr rfl, trivial⟩, ⟨.inr rfl, .inr rfl, .inr rfl, .inr rfl, .inr rfl, .inr rfl, trivial⟩⟩)
         | (refine ⟨[0, 1, 2, 3, 4, 5, 10, 9, 11, 12, 13], rfl, (), ?_, rfl, ⟨.inr rfl, .inr rfl, .inr rfl, .inr rfl, .inr rfl, .inr rfl, trivial⟩, ⟨.inr rfl, .inr rfl, .inr rfl, .inr rfl, .inr rfl, .inr rfl, trivial⟩⟩)
         | (refine ⟨[0, 1, 2, 3, 4, 5, 6, 13, 10, 11, 12], rfl, (), ?_, rfl, ⟨.inr rfl, .inr rfl, .inr rfl, .inr rfl, .inr rfl, .inr rfl, trivial⟩, ⟨.inr rfl, .inr rfl, .inr rfl, .inr rfl, .inr rfl, .inr rfl, trivial⟩⟩)
         | (refine ⟨[0, 1, 2, 3, 4, 5, 13, 6, 10, 11, 12], rfl, (), ?_, rfl, ⟨.inr rfl, .inr rfl, .inr rfl, .inr rfl, .inr rfl, .inr rfl, trivial⟩, ⟨.inr rfl, .inr rfl, .inr rfl, .inr rfl, .inr rfl, .inr rfl, trivial⟩⟩)
         | (refine ⟨[0, 1, 2, 3, 4, 5, 6, 10, 11, 12, 13], rfl, (), ?_, rfl, ⟨.inr rfl, .inr rfl, .inr rfl, .inr rfl, .inr rfl, .inr rfl, trivial⟩, ⟨.inr rfl, .inr rfl, .inr rfl, .inr rfl, .inr rfl, .inr rfl, trivial⟩⟩)
         | (refine ⟨[0, 1, 2, 3, 4, 5, 10, 6, 11, 12, 13], rfl, (), ?_, rfl, ⟨.inr rfl, .inr rfl, .inr rfl, .inr rfl, .inr rfl, .inr rfl, trivial⟩, ⟨.inr rfl, .inr rfl, .inr rfl, .inr rfl, .inr rfl, .inr rfl, trivial⟩⟩)
         | (refine ⟨[0, 1, 2, 3, 4, 5, 6, 7, 11, 12, 13], rfl, (), ?_, rfl, ⟨.inr rfl, .inr rfl, .inr rfl, .inr rfl, .inr rfl, .inr rfl, trivial⟩, ⟨.inr rfl, .inr rfl, .inr rfl, .inr rfl, .inr rfl, .inr rfl, trivial⟩⟩)
         | (refine ⟨[0, 1, 2, 3, 4, 5, 7, 6, 11, 12, 13], rfl, (), ?_, rfl, ⟨.inr rfl, .inr rfl, .inr rfl, .inr rfl, .inr rfl, .inr rfl, trivial⟩, ⟨.inr rfl, .inr rfl, .inr rfl, .inr rfl, .inr rfl, .inr rfl, trivial⟩⟩)
        trivial
      ·refine s_heavy 9 rfl rfl rfl (V_alloc rfl za_34 ?_)
       refine t_call 1 rfl rfl rfl rfl rfl ca_37 (c_spec_l4Copy c hb) ?_
       rintro r S ⟨rfl, rfl⟩
       first
        | (refine t_frame 4 [5, 4, 6, 7, 8] rfl rfl rfl rfl rfl ca_50 rfl (c_spec_l7With 0 c s v [] 0 hc hs hv (okL_nil 0) (by omega)) ?_)
        | (refine t_frame 4 [5, 4, 7, 8, 9] rfl rfl rfl rfl rfl ca_50 rfl (c_spec_l7With 0 c s v [] 0 hc hs hv (okL_nil 0) (by omega)) ?_)
        | (refine t_frame 4 [5, 4, 8, 9, 10] rfl rfl rfl rfl rfl ca_50 rfl (c_spec_l7With 0 c s v [] 0 hc hs hv (okL_nil 0) (by omega)) ?_)
       rintro r S ⟨r0, S0, ⟨rfl, rfl⟩, rfl, rfl⟩
       refine t_pure 5 rfl rfl rfl (L_move rfl) ?_
       refine t_pure 6 rfl rfl rfl (L_extract rfl rfl) ?_
       refine t_pure 7 rfl rfl rfl (L_extract rfl rfl) ?_
       refine t_turn 10 rfl rfl (EOp_store rfl rfl rfl (by first | exact s_bp ty_29 | exact s_ep ty_29) ?_)
       refine t_turn 11 rfl rfl (EOp_store rfl rfl rfl (by first | exact s_bp ty_34 | exact s_ep ty_34) ?_)
       refine T_done (by kernel_rfl) ?_
       skip
       first
        | (refine ⟨[0, 1, 2, 3, 4, 5, 12, 13, 9, 10, 11], rfl, (), ?_, rfl, ⟨.inr rfl, .inr rfl, .inr rfl, .inr rfl, .inr rfl, .inr rfl, trivial⟩, ⟨.inr rfl, .inr rfl, .inr rfl, .inr rfl, .inr rfl, .inr rfl, trivial⟩⟩)
        | (refine ⟨[0, 1, 2, 3, 4, 5, 13, 12, 9, 10, 11], rfl, (), ?_, rfl, ⟨.inr rfl, .inr rfl, .inr rfl, .inr rfl, .inr rfl, .inr rfl, trivial⟩, ⟨.inr rfl, .inr rfl, .inr rfl, .inr rfl, .inr rfl, .inr rfl, trivial⟩⟩)
        | (refine ⟨[0, 1, 2, 3, 4, 5, 9, 13, 10, 11, 12], rfl, (), ?_, rfl, ⟨.inr rfl, .inr rfl, .inr rfl, .inr rfl, .inr rfl, .inr rfl, trivial⟩, ⟨.inr rfl, .inr rfl, .inr rfl, .inr rfl, .inr rfl, .inr rfl, trivial⟩⟩)
        | (refine ⟨[0, 1, 2, 3, 4, 5, 13, 9, 10, 11, 12], rfl, (), ?_, rfl, ⟨.inr rfl, .inr rfl, .inr rfl, .inr rfl, .inr rfl, .inr rfl, trivial⟩, ⟨.inr rfl, .inr rfl, .inr rfl, .inr rfl, .inr rfl, .inr rfl, trivial⟩⟩)
        | (refine ⟨[0, 1, 2, 3, 4, 5, 9, 10, 11, 12, 13], rfl, (), ?_, rfl, ⟨.inr rfl, .inr rfl, .inr rfl, .inr rfl, .inr rfl, .inr rfl, trivial⟩, ⟨.inr rfl, .inr rfl, .inr rfl, .inr rfl, .inr rfl, .inr rfl, trivial⟩⟩)
        | (refine ⟨[0, 1, 2, 3, 4, 5, 10, 9, 11, 12, 13], rfl, (), ?_, rfl, ⟨.inr rfl, .inr rfl, .inr rfl, .inr rfl, .inr rfl, .inr rfl, trivial⟩, ⟨.inr rfl, .inr rfl, .inr rfl, .inr rfl, .inr rfl, .inr rfl, trivial⟩⟩)
        | (refine ⟨[0, 1, 2, 3, 4, 5, 6, 13, 10, 11, 12], rfl, (), ?_, rfl, ⟨.inr rfl, .inr rfl, .inr rfl, .inr rfl, .inr rfl, .inr rfl, trivial⟩, ⟨.inr rfl, .inr rfl, .inr rfl, .inr rfl, .inr rfl, .inr rfl, trivial⟩⟩)
        | (refine ⟨[0, 1, 2, 3, 4, 5, 13, 6, 10, 11, 12], rfl, (), ?_, rfl, ⟨.inr rfl, .inr rfl, .inr rfl, .inr rfl, .inr rfl, .inr rfl, trivial⟩, ⟨.inr rfl, .inr rfl, .inr rfl, .inr rfl, .inr rfl, .inr rfl, trivial⟩⟩)
        | (refine ⟨[0, 1, 2, 3, 4, 5, 6, 10, 11, 12, 13], rfl, (), ?_, rfl, ⟨.inr rfl, .inr rfl, .inr rfl, .inr rfl, .inr rfl, .inr rfl, trivial⟩, ⟨.inr rfl, .inr rfl, .inr rfl, .inr rfl, .inr rfl, .inr rfl, trivial⟩⟩)
        | (refine ⟨[0, 1, 2, 3, 4, 5, 10, 6, 11, 12, 13], rfl, (), ?_, rfl, ⟨.inr rfl, .inr rfl, .inr rfl, .inr rfl, .inr rfl, .inr rfl, trivial⟩, ⟨.inr rfl, .inr rfl, .inr rfl, .inr rfl, .inr rfl, .inr rfl, trivial⟩⟩)
        | (refine ⟨[0, 1, 2, 3, 4, 5, 6, 7, 11, 12, 13], rfl, (), ?_, rfl, ⟨.inr rfl, .inr rfl, .inr rfl, .inr rfl, .inr rfl, .inr rfl, trivial⟩, ⟨.inr rfl, .inr rfl, .inr rfl, .inr rfl, .inr rfl, .inr rfl, trivial⟩⟩)
        | (refine ⟨[0, 1, 2, 3, 4, 5, 7, 6, 11, 12, 13], rfl, (), ?_, rfl, ⟨.inr rfl, .inr rfl, .inr rfl, .inr rfl, .inr rfl, .inr rfl, trivial⟩, ⟨.inr rfl, .inr rfl, .inr rfl, .inr rfl, .inr rfl, .inr rfl, trivial⟩⟩)
       trivial
     ·refine s_heavy 9 rfl rfl rfl (V_alloc rfl za_34 ?_)
      refine t_two 1 8 ?_ ?_
      ·refine s_call 1 rfl rfl rfl rfl rfl ca_37 (c_spec_l4Copy c hb) ?_
       rintro r S ⟨rfl, rfl⟩
       refine t_two 4 8 ?_ ?_
       ·first
         | (refine s_frame 4 [5, 4, 6, 7, 8] rfl rfl rfl rfl rfl ca_50 rfl (c_spec_l7With 0 c s v [] 0 hc hs hv (okL_nil 0) (by omega)) ?_)
         | (refine s_frame 4 [5, 4, 7, 8, 9] rfl rfl rfl rfl rfl ca_50 rfl (c_spec_l7With 0 c s v [] 0 hc hs hv (okL_nil 0) (by omega)) ?_)
         | (refine s_frame 4 [5, 4, 8, 9, 10] rfl rfl rfl rfl rfl ca_50 rfl (c_spec_l7With 0 c s v [] 0 hc hs hv (okL_nil 0) (by omega)) ?_)
        rintro r S ⟨r0, S0, ⟨rfl, rfl⟩, rfl, rfl⟩
        refine t_old 5 rfl rfl rfl (L_move rfl) ?_
        refine t_old 6 rfl rfl rfl (L_extract rfl rfl) ?_
        refine t_old 7 rfl rfl rfl (L_extract rfl rfl) ?_
        refine t_heavy 8 rfl rfl rfl (V_alloc rfl za_29 ?_)
        refine t_turn 10 rfl rfl (EOp_store rfl rfl rfl (by first | exact s_bp ty_29 | exact s_ep ty_29) ?_)
        refine t_turn 11 rfl rfl (EOp_store rfl rfl rfl (by first | exact s_bp ty_34 | exact s_ep ty_34) ?_)
        refine T_done (by kernel_rfl) ?_
        skip
        first
         | (refine ⟨[0, 1, 2, 3, 4, 5, 12, 13, 9, 10, 11], rfl, (), ?_, rfl, ⟨.inr rfl, .inr rfl, .inr rfl, .inr rfl, .inr rfl, .inr rfl, trivial⟩, ⟨.inr rfl, .inr rfl, .inr rfl, .inr rfl, .inr rfl, .inr rfl, trivial⟩⟩)
         | (refine ⟨[0, 1, 2, 3, 4, 5, 13, 12, 9, 10, 11], rfl, (), ?_, rfl, ⟨.inr rfl, .inr rfl, .inr rfl, .inr rfl, .inr rfl, .inr rfl, trivial⟩, ⟨.inr rfl, .inr rfl, .inr rfl, .inr rfl, .inr rfl, .inr rfl, trivial⟩⟩)
         | (refine ⟨[0, 1, 2, 3, 4, 5, 9, 13, 10, 11, 12], rfl, (), ?_, rfl, ⟨.inr rfl, .inr rfl, .inr rfl, .inr rfl, .inr rfl, .inr rfl, trivial⟩, ⟨.inr rfl, .inr rfl, .inr rfl, .inr rfl, .inr rfl, .inr rfl, trivial⟩⟩)
         | (refine ⟨[0, 1, 2, 3, 4, 5, 13, 9, 10, 11, 12], rfl, (), ?_, rfl, ⟨.inr rfl, .inr rfl, .inr rfl, .inr rfl, .inr rfl, .inr rfl, trivial⟩, ⟨.inr rfl, .inr rfl, .inr rfl, .inr rfl, .inr rfl, .inr rfl, trivial⟩⟩)
         | (refine ⟨[0, 1, 2, 3, 4, 5, 9, 10, 11, 12, 13], rfl, (), ?_, rfl, ⟨.inr rfl, .inr rfl, .inr rfl, .inr rfl, .inr rfl, .inr rfl, trivial⟩, ⟨.inr rfl, .inr rfl, .inr rfl, .inr rfl, .inr rfl, .inr rfl, trivial⟩⟩)
         | (refine ⟨[0, 1, 2, 3, 4, 5, 10, 9, 11, 12, 13], rfl, (), ?_, rfl, ⟨.inr rfl, .inr rfl, .inr rfl, .inr rfl, .inr rfl, .inr rfl, trivial⟩, ⟨.inr rfl, .inr rfl, .inr rfl, .inr rfl, .inr rfl, .inr rfl, trivial⟩⟩)
         | (refine ⟨[0, 1, 2, 3, 4, 5, 6, 13, 10, 11, 12], rfl, (), ?_, rfl, ⟨.inr rfl, .inr rfl, .inr rfl, .inr rfl, .inr rfl, .inr rfl, trivial⟩, ⟨.inr rfl, .inr rfl, .inr rfl, .inr rfl, .inr rfl, .inr rfl, trivial⟩⟩)
         | (refine ⟨[0, 1, 2, 3, 4, 5, 13, 6, 10, 11, 12], rfl, (), ?_, rfl, ⟨.inr rfl, .inr rfl, .inr rfl, .inr rfl, .inr rfl, .inr rfl, trivial⟩, ⟨.inr rfl, .inr rfl, .inr rfl, .inr rfl, .inr rfl, .inr rfl, trivial⟩⟩)
         | (refine ⟨[0, 1, 2, 3, 4, 5, 6, 10, 11, 12, 13], rfl, (), ?_, rfl, ⟨.inr rfl, .inr rfl, .inr rfl, .inr rfl, .inr rfl, .inr rfl, trivial⟩, ⟨.inr rfl, .inr rfl, .inr rfl, .inr rfl, .inr rfl, .inr rfl, trivial⟩⟩)
         | (refine ⟨[0, 1, 2, 3, 4, 5, 10, 6, 11, 12, 13], rfl, (), ?_, rfl, ⟨.inr rfl, .inr rfl, .inr rfl, .inr rfl, .inr rfl, .inr rfl, trivial⟩, ⟨.inr rfl, .inr rfl, .inr rfl, .inr rfl, .inr rfl, .inr rfl, trivial⟩⟩)
         | (refine ⟨[0, 1, 2, 3, 4, 5, 6, 7, 11, 12, 13], rfl, (), ?_, rfl, ⟨.inr rfl, .inr rfl, .inr rfl, .inr rfl, .inr rfl, .inr rfl, trivial⟩, ⟨.inr rfl, .inr rfl, .inr rfl, .inr rfl, .inr rfl, .inr rfl, trivial⟩⟩)
         | (refine ⟨[0, 1, 2, 3, 4, 5, 7, 6, 11, 12, 13], rfl, (), ?_, rfl, ⟨.inr rfl, .inr rfl, .inr rfl, .inr rfl, .inr rfl, .inr rfl, trivial⟩, ⟨.inr rfl, .inr rfl, .inr rfl, .inr rfl, .inr rfl, .inr rfl, trivial⟩⟩)
        trivial
       ·refine s_heavy 8 rfl rfl rfl (V_alloc rfl za_29 ?_)
        first
         | (refine t_frame 4 [5, 4, 6, 7, 8] rfl rfl rfl rfl rfl ca_50 rfl (c_spec_l7With 0 c s v [] 0 hc hs hv (okL_nil 0) (by omega)) ?_)
         | (refine t_frame 4 [5, 4, 7, 8, 9] rfl rfl rfl rfl rfl ca_50 rfl (c_spec_l7With 0 c s v [] 0 hc hs hv (okL_nil 0) (by omega)) ?_)
         | (refine t_frame 4 [5, 4, 8, 9, 10] rfl rfl rfl rfl rfl ca_50 rfl (c_spec_l7With 0 c s v [] 0 hc hs hv (okL_nil 0) (by omega)) ?_)
        rintro r S ⟨r0, S0, ⟨rfl, rfl⟩, rfl, rfl⟩
        refine t_pure 5 rfl rfl rfl (L_move rfl) ?_
        refine t_pure 6 rfl rfl rfl (L_extract rfl rfl) ?_
        refine t_pure 7 rfl rfl rfl (L_extract rfl rfl) ?_
        refine t_turn 10 rfl rfl (EOp_store rfl rfl rfl (by first | exact s_bp ty_29 | exact s_ep ty_29) ?_)
        refine t_turn 11 rfl rfl (EOp_store rfl rfl rfl (by first | exact s_bp ty_34 | exact s_ep ty_34) ?_)
        refine T_done (by kernel_rfl) ?_
        skip
        first
         | (refine ⟨[0, 1, 2, 3, 4, 5, 12, 13, 9, 10, 11], rfl, (), ?_, rfl, ⟨.inr rfl, .inr rfl, .inr rfl, .inr rfl, .inr rfl, .inr rfl, trivial⟩, ⟨.inr rfl, .inr rfl, .inr rfl, .inr rfl, .inr rfl, .inr rfl, trivial⟩⟩)
         | (refine ⟨[0, 1, 2, 3, 4, 5, 13, 12, 9, 10, 11], rfl, (), ?_, rfl, ⟨.inr rfl, .inr rfl, .inr rfl, .inr rfl, .inr rfl, .inr rfl, trivial⟩, ⟨.inr rfl, .inr rfl, .inr rfl, .inr rfl, .inr rfl, .inr rfl, trivial⟩⟩)
         | (refine ⟨[0, 1, 2, 3, 4, 5, 9, 13, 10, 11, 12], rfl, (), ?_, rfl, ⟨.inr rfl, .inr rfl, .inr rfl, .inr rfl, .inr rfl, .inr rfl, trivial⟩, ⟨.inr rfl, .inr rfl, .inr rfl, .inr rfl, .inr rfl, .inr rfl, trivial⟩⟩)
         | (refine ⟨[0, 1, 2, 3, 4, 5, 13, 9, 10, 11, 12], rfl, (), ?_, rfl, ⟨.inr rfl, .inr rfl, .inr rfl, .inr rfl, .inr rfl, .inr rfl, trivial⟩, ⟨.inr rfl, .inr rfl, .inr rfl, .inr rfl, .inr rfl, .inr rfl, trivial⟩⟩)
         | (refine ⟨[0, 1, 2, 3, 4, 5, 9, 10, 11, 12, 13], rfl, (), ?_, rfl, ⟨.inr rfl, .inr rfl, .inr rfl, .inr rfl, .inr rfl, .inr rfl, trivial⟩, ⟨.inr rfl, .inr rfl, .inr rfl, .inr rfl, .inr rfl, .inr rfl, trivial⟩⟩)
         | (refine ⟨[0, 1, 2, 3, 4, 5, 10, 9, 11, 12, 13], rfl, (), ?_, rfl, ⟨.inr rfl, .inr rfl, .inr rfl, .inr rfl, .inr rfl, .inr rfl, trivial⟩, ⟨.inr rfl, .inr rfl, .inr rfl, .inr rfl, .inr rfl, .inr rfl, trivial⟩⟩)
         | (refine ⟨[0, 1, 2, 3, 4, 5, 6, 13, 10, 11, 12], rfl, (), ?_, rfl, ⟨.inr rfl, .inr rfl, .inr rfl, .inr rfl, .inr rfl, .inr rfl, trivial⟩, ⟨.inr rfl, .inr rfl, .inr rfl, .inr rfl, .inr rfl, .inr rfl, trivial⟩⟩)
         | (refine ⟨[0, 1, 2, 3, 4, 5, 13, 6, 10, 11, 12], rfl, (), ?_, rfl, ⟨.inr rfl, .inr rfl, .inr rfl, .inr rfl, .inr rfl, .inr rfl, trivial⟩, ⟨.inr rfl, .inr rfl, .inr rfl, .inr rfl, .inr rfl, .inr rfl, trivial⟩⟩)
         | (refine ⟨[0, 1, 2, 3, 4, 5, 6, 10, 11, 12, 13], rfl, (), ?_, rfl, ⟨.inr rfl, .inr rfl, .inr rfl, .inr rfl, .inr rfl, .inr rfl, trivial⟩, ⟨.inr rfl, .inr rfl, .inr rfl, .inr rfl, .inr rfl, .inr rfl, trivial⟩⟩)
         | (refine ⟨[0, 1, 2, 3, 4, 5, 10, 6, 11, 12, 13], rfl, (), ?_, rfl, ⟨.inr rfl, .inr rfl, .inr rfl, .inr rfl, .inr rfl, .inr rfl, trivial⟩, ⟨.inr rfl, .inr rfl, .inr rfl, .inr rfl, .inr rfl, .inr rfl, trivial⟩⟩)
         | (refine ⟨[0, 1, 2, 3, 4, 5, 6, 7, 11, 12, 13], rfl, (), ?_, rfl, ⟨.inr rfl, .inr rfl, .inr rfl, .inr rfl, .inr rfl, .inr rfl, trivial⟩, ⟨.inr rfl, .inr rfl, .inr rfl, .inr rfl, .inr rfl, .inr rfl, trivial⟩⟩)
         | (refine ⟨[0, 1, 2, 3, 4, 5, 7, 6, 11, 12, 13], rfl, (), ?_, rfl, ⟨.inr rfl, .inr rfl, .inr rfl, .inr rfl, .inr rfl, .inr rfl, trivial⟩, ⟨.inr rfl, .inr rfl, .inr rfl, .inr rfl, .inr rfl, .inr rfl, trivial⟩⟩)
        trivial
      ·refine s_heavy 8 rfl rfl rfl (V_alloc rfl za_29 ?_)
       refine t_call 1 rfl rfl rfl rfl rfl ca_37 (c_spec_l4Copy c hb) ?_
       rintro r S ⟨rfl, rfl⟩
       first
        | (refine t_frame 4 [5, 4, 6, 7, 8] rfl rfl rfl rfl rfl ca_50 rfl (c_spec_l7With 0 c s v [] 0 hc hs hv (okL_nil 0) (by omega)) ?_)
        | (refine t_frame 4 [5, 4, 7, 8, 9] rfl rfl rfl rfl rfl ca_50 rfl (c_spec_l7With 0 c s v [] 0 hc hs hv (okL_nil 0) (by omega)) ?_)
        | (refine t_frame 4 [5, 4, 8, 9, 10] rfl rfl rfl rfl rfl ca_50 rfl (c_spec_l7With 0 c s v [] 0 hc hs hv (okL_nil 0) (by omega)) ?_)
       rintro r S ⟨r0, S0, ⟨rfl, rfl⟩, rfl, rfl⟩
       refine t_pure 5 rfl rfl rfl (L_move rfl) ?_
       refine t_pure 6 rfl rfl rfl (L_extract rfl rfl) ?_
       refine t_pure 7 rfl rfl rfl (L_extract rfl rfl) ?_
       refine t_turn 10 rfl rfl (EOp_store rfl rfl rfl (by first | exact s_bp ty_29 | exact s_ep ty_29) ?_)
       refine t_turn 11 rfl rfl (EOp_store rfl rfl rfl (by first | exact s_bp ty_34 | exact s_ep ty_34) ?_)
       refine T_done (by kernel_rfl) ?_
       skip
       first
        | (refine ⟨[0, 1, 2, 3, 4, 5, 12, 13, 9, 10, 11], rfl, (), ?_, rfl, ⟨.inr rfl, .inr rfl, .inr rfl, .inr rfl, .inr rfl, .inr rfl, trivial⟩, ⟨.inr rfl, .inr rfl, .inr rfl, .inr rfl, .inr rfl, .inr rfl, trivial⟩⟩)
        | (refine ⟨[0, 1, 2, 3, 4, 5, 13, 12, 9, 10, 11], rfl, (), ?_, rfl, ⟨.inr rfl, .inr rfl, .inr rfl, .inr rfl, .inr rfl, .inr rfl, trivial⟩, ⟨.inr rfl, .inr rfl, .inr rfl, .inr rfl, .inr rfl, .inr rfl, trivial⟩⟩)
        | (refine ⟨[0, 1, 2, 3, 4, 5, 9, 13, 10, 11, 12], rfl, (), ?_, rfl, ⟨.inr rfl, .inr rfl, .inr rfl, .inr rfl, .inr rfl, .inr rfl, trivial⟩, ⟨.inr rfl, .inr rfl, .inr rfl, .inr rfl, .inr rfl, .inr rfl, trivial⟩⟩)
        | (refine ⟨[0, 1, 2, 3, 4, 5, 13, 9, 10, 11, 12], rfl, (), ?_, rfl, ⟨.inr rfl, .inr rfl, .inr rfl, .inr rfl, .inr rfl, .inr rfl, trivial⟩, ⟨.inr rfl, .inr rfl, .inr rfl, .inr rfl, .inr rfl, .inr rfl, trivial⟩⟩)
        | (refine ⟨[0, 1, 2, 3, 4, 5, 9, 10, 11, 12, 13], rfl, (), ?_, rfl, ⟨.inr rfl, .inr rfl, .inr rfl, .inr rfl, .inr rfl, .inr rfl, trivial⟩, ⟨.inr rfl, .inr rfl, .inr rfl, .inr rfl, .inr rfl, .inr rfl, trivial⟩⟩)
        | (refine ⟨[0, 1, 2, 3, 4, 5, 10, 9, 11, 12, 13], rfl, (), ?_, rfl, ⟨.inr rfl, .inr rfl, .inr rfl, .inr rfl, .inr rfl, .inr rfl, trivial⟩, ⟨.inr rfl, .inr rfl, .inr rfl, .inr rfl, .inr rfl, .inr rfl, trivial⟩⟩)
        | (refine ⟨[0, 1, 2, 3, 4, 5, 6, 13, 10, 11, 12], rfl, (), ?_, rfl, ⟨.inr rfl, .inr rfl, .inr rfl, .inr rfl, .inr rfl, .inr rfl, trivial⟩, ⟨.inr rfl, .inr rfl, .inr rfl, .inr rfl, .inr rfl, .inr rfl, trivial⟩⟩)
        | (refine ⟨[0, 1, 2, 3, 4, 5, 13, 6, 10, 11, 12], rfl, (), ?_, rfl, ⟨.inr rfl, .inr rfl, .inr rfl, .inr rfl, .inr rfl, .inr rfl, trivial⟩, ⟨.inr rfl, .inr rfl, .inr rfl, .inr rfl, .inr rfl, .inr rfl, trivial⟩⟩)
        | (refine ⟨[0, 1, 2, 3, 4, 5, 6, 10, 11, 12, 13], rfl, (), ?_, rfl, ⟨.inr rfl, .inr rfl, .inr rfl, .inr rfl, .inr rfl, .inr rfl, trivial⟩, ⟨.inr rfl, .inr rfl, .inr rfl, .inr rfl, .inr rfl, .inr rfl, trivial⟩⟩)
        | (refine ⟨[0, 1, 2, 3, 4, 5, 10, 6, 11, 12, 13], rfl, (), ?_, rfl, ⟨.inr rfl, .inr rfl, .inr rfl, .inr rfl, .inr rfl, .inr rfl, trivial⟩, ⟨.inr rfl, .inr rfl, .inr rfl, .inr rfl, .inr rfl, .inr rfl, trivial⟩⟩)
        | (refine ⟨[0, 1, 2, 3, 4, 5, 6, 7, 11, 12, 13], rfl, (), ?_, rfl, ⟨.inr rfl, .inr rfl, .inr rfl, .inr rfl, .inr rfl, .inr rfl, trivial⟩, ⟨.inr rfl, .inr rfl, .inr rfl, .inr rfl, .inr rfl, .inr rfl, trivial⟩⟩)
        | (refine ⟨[0, 1, 2, 3, 4, 5, 7, 6, 11, 12, 13], rfl, (), ?_, rfl, ⟨.inr rfl, .inr rfl, .inr rfl, .inr rfl, .inr rfl, .inr rfl, trivial⟩, ⟨.inr rfl, .inr rfl, .inr rfl, .inr rfl, .inr rfl, .inr rfl, trivial⟩⟩)
       trivial
    rintro _ hI
    refine G_seq ?_
    refine g_tidy_A95_0 [0, 1, 2, 3, 4, 6, 7, 8, 9, 10, 11, 24] ?_
    refine G_drawD [0, 1, 5, 6, 7] mixed ?_
    refine d_load' 0 rfl rfl rfl rfl rfl (d_bp ty_29) ?_
    refine d_load' 1 rfl rfl rfl rfl rfl (d_bp ty_34) ?_
    refine d_load' 2 rfl rfl rfl rfl rfl (d_bp ty_79) ?_
    refine d_any 3 [] ⟨?_, trivial⟩
    refine d_call 3 rfl rfl rfl rfl rfl ca_51 (c_spec_l7Total (withW 0 c s v []).2.2 8001 hwl (by omega)) ?_
    rintro r S ⟨rfl, rfl⟩
    refine d_any 4 [] ⟨?_, trivial⟩
    refine d_store' 4 rfl rfl rfl rfl rfl rfl (s_bp ty_29) ?_
    refine d_any 5 [] ⟨?_, trivial⟩
    refine d_store' 5 rfl rfl rfl rfl rfl rfl (s_bp ty_34) ?_
    refine d_pure' 6 rfl rfl rfl (L_assign rfl) ?_
    refine D_done (by kernel_rfl) ?_
    refine G_ret ?_
    rw [hcc.1, hcc.2.1, hcc.2.2]
    first
     | exact ⟨_, [4, 5, 6], rfl, rfl, rfl, rfl⟩
     | exact ⟨_, [8, 9, 10], rfl, rfl, rfl, rfl⟩

end Go.Proofs.YthnadkagchbhbaaGreat.E
