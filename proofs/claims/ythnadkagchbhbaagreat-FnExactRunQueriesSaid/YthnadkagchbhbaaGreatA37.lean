/- Walks through functions, by program out of the session's annotations. -/
import Derived.Test.YthnadkagchbhbaaGreatA36
import Derived.Test.YthnadkagchbhbaaGreatF3
namespace Go.Proofs.YthnadkagchbhbaaGreat.E
open Go Go.RowKit Go.Proofs
set_option linter.unusedVariables false
set_option linter.unusedSimpArgs false

theorem swp_of {l : List Int} {i e : Nat} {x y : Int} (hx : l[i]? = some x) (hy : l[e]? = some y) : (l.set i y).set e x = swp l ((i : Int), (e : Int)) := by
 have h1 := getD_x hx; have h2 := getD_x hy
 simp only [swp, Int.toNat_natCast, h1, h2]
theorem set_atI {l : List Int} {i e : Nat} {y : Int} (hy : l[e]? = some y) : ((ints l).set i [T.sc (.int .i64 y)])[e]? = some [T.sc (.int .i64 y)] := by
 rw [List.getElem?_set]
 split
 ·rename_i h; subst h
  rw [if_pos]
  rw [ints_len]
  rcases Nat.lt_or_ge i l.length with h' | h'
  ·exact h'
  ·rw [List.getElem?_eq_none h'] at hy; cases hy
 ·exact ints_at hy
theorem swps_step {l : List Int} {sw : List (Int × Int)} {k : Nat} {s : Int × Int} (h : sw[k]? = some s) : swps l (sw.take (k + 1)) = swp (swps l (sw.take k)) s := by
 have hk : k < sw.length := by
  rcases Nat.lt_or_ge k sw.length with h' | h'
  ·exact h'
  ·rw [List.getElem?_eq_none h'] at h; cases h
 have e : sw[k] = s := by rw [List.getElem?_eq_getElem hk] at h; exact Option.some.inj h
 rw [List.take_succ_eq_append_getElem hk, swps_app, e]; rfl
theorem swIn_at {n : Nat} {sw : List (Int × Int)} {k : Nat} {s : Int × Int} (h : swIn 0 n sw) (hs : sw[k]? = some s) : ∃ i e : Nat, s = ((i : Int), (e : Int)) ∧ i < n ∧ e < n := by
 have := h s (List.mem_of_getElem? hs)
 exact ⟨s.1.toNat, s.2.toNat, by ext <;> dsimp only <;> omega, by omega, by omega⟩

theorem g_tidy_A37_0 {P : Program} {N n : Nat} {s : Slots} {R : List Res} {Q : Exit → Slots → List Res → Prop} {c : Code} (keep : List Nat) {base : Slots} {R' : List Res} (h : GCode P N n c base R' Q) (hb : keepOf s keep = base := by simp only [E.keepOf, E.get, E.ev, E.cv, E.fill', E.fill, E.slotsOf, Res.sh, AC.sh, AC.sh.shs, AV.sh, E.splice, List.map_cons, List.map_nil, List.cons_append, List.nil_append, List.append_nil, List.length_cons, List.length_nil, List.take_zero, List.drop_zero, List.take_succ_cons, List.drop_succ_cons, List.drop_nil, List.take_nil, List.set_cons_zero, List.set_cons_succ, Nat.zero_add, Nat.add_zero, Nat.reduceAdd, Nat.reduceSub, reduceIte, Nat.reduceEqDiff, E.back, E.backR, E.ix, Res.un, AC.un, AC.un.uns, AV.un, E.un, Option.map_some, Option.map_none, Option.getD_some, List.getElem?_cons_zero, List.getElem?_cons_succ, List.getElem?_nil, crkR, crkO]; rfl) (hR : R = R' := by (try simp only [E.keepOf, E.get, E.ev, E.cv, E.fill', E.fill, E.slotsOf, Res.sh, AC.sh, AC.sh.shs, AV.sh, E.splice, List.map_cons, List.map_nil, List.cons_append, List.nil_append, List.append_nil, List.length_cons, List.length_nil, List.take_zero, List.drop_zero, List.take_succ_cons, List.drop_succ_cons, List.drop_nil, List.take_nil, List.set_cons_zero, List.set_cons_succ, Nat.zero_add, Nat.add_zero, Nat.reduceAdd, Nat.reduceSub, reduceIte, Nat.reduceEqDiff, E.back, E.backR, E.ix, Res.un, AC.un, AC.un.uns, AV.un, E.un, Option.map_some, Option.map_none, Option.getD_some, List.getElem?_cons_zero, List.getElem?_cons_succ, List.getElem?_nil, crkR, crkO]); rfl) : GCode P N n c s R Q := G_tidy keep hb hR h
theorem g_forD_A37_1 {P : Program} {N n : Nat} {s : Slots} {R : List Res} {Q : Exit → Slots → List Res → Prop} {α : Type} {c : Code} (keep : List Nat) (mods : α → Slots) (Rf : α → List Res) (I : α → Prop) (m : α → Nat) (x0 : α) {base : Slots} (h0 : I x0) (hR : R = Rf x0) (h1 : chk s (mods x0))
  (round : ∀ x, I x → GCode P N n c (mods x ++ base) (Rf x) (EThen (fun s' R' => ∃ σ, okσ n R' σ = true ∧ ∃ y, m y < m x ∧ I y ∧ reR n σ R' = Rf y ∧ chk (renS n σ s') (mods y) ∧ chk (renS n σ s') base) Q)) (hb : keepOf s keep = base := by simp only [E.keepOf, E.get, E.ev, E.cv, E.fill', E.fill, E.slotsOf, Res.sh, AC.sh, AC.sh.shs, AV.sh, E.splice, List.map_cons, List.map_nil, List.cons_append, List.nil_append, List.append_nil, List.length_cons, List.length_nil, List.take_zero, List.drop_zero, List.take_succ_cons, List.drop_succ_cons, List.drop_nil, List.take_nil, List.set_cons_zero, List.set_cons_succ, Nat.zero_add, Nat.add_zero, Nat.reduceAdd, Nat.reduceSub, reduceIte, Nat.reduceEqDiff, E.back, E.backR, E.ix, Res.un, AC.un, AC.un.uns, AV.un, E.un, Option.map_some, Option.map_none, Option.getD_some, List.getElem?_cons_zero, List.getElem?_cons_succ, List.getElem?_nil, crkR, crkO]; rfl) : GCode P N n (.loop c) s R Q := G_forD keep mods Rf I m x0 hb h0 hR h1 round
theorem e_tidy_A37_2 {P : Program} {N : Nat} {s : Slots} {R : List Res} {Q : Exit → Slots → List Res → Prop} {c : Code} (keep : List Nat) {base : Slots} {R' : List Res} (h : ECode P N c base R' Q) (hb : keepOf s keep = base := by simp only [E.keepOf, E.get, E.ev, E.cv, E.fill', E.fill, E.slotsOf, Res.sh, AC.sh, AC.sh.shs, AV.sh, E.splice, List.map_cons, List.map_nil, List.cons_append, List.nil_append, List.append_nil, List.length_cons, List.length_nil, List.take_zero, List.drop_zero, List.take_succ_cons, List.drop_succ_cons, List.drop_nil, List.take_nil, List.set_cons_zero, List.set_cons_succ, Nat.zero_add, Nat.add_zero, Nat.reduceAdd, Nat.reduceSub, reduceIte, Nat.reduceEqDiff, E.back, E.backR, E.ix, Res.un, AC.un, AC.un.uns, AV.un, E.un, Option.map_some, Option.map_none, Option.getD_some, List.getElem?_cons_zero, List.getElem?_cons_succ, List.getElem?_nil, crkR, crkO]; rfl) (hR : R = R' := by (try simp only [E.keepOf, E.get, E.ev, E.cv, E.fill', E.fill, E.slotsOf, Res.sh, AC.sh, AC.sh.shs, AV.sh, E.splice, List.map_cons, List.map_nil, List.cons_append, List.nil_append, List.append_nil, List.length_cons, List.length_nil, List.take_zero, List.drop_zero, List.take_succ_cons, List.drop_succ_cons, List.drop_nil, List.take_nil, List.set_cons_zero, List.set_cons_succ, Nat.zero_add, Nat.add_zero, Nat.reduceAdd, Nat.reduceSub, reduceIte, Nat.reduceEqDiff, E.back, E.backR, E.ix, Res.un, AC.un, AC.un.uns, AV.un, E.un, Option.map_some, Option.map_none, Option.getD_some, List.getElem?_cons_zero, List.getElem?_cons_succ, List.getElem?_nil, crkR, crkO]); rfl) : ECode P N c s R Q := E_tidy keep hb hR h
theorem e_for_A37_3 {P : Program} {N : Nat} {s : Slots} {R : List Res} {Q : Exit → Slots → List Res → Prop} {α : Type} {c : Code} (keep : List Nat) (mods : α → Slots) (Rf : α → List Res) (I : α → Prop) (m : α → Nat) (x0 : α) {base : Slots} (h0 : I x0) (hR : R = Rf x0) (h1 : chk s (mods x0))
  (round : ∀ x, I x → ECode P N c (mods x ++ base) (Rf x) (EThen (fun s' R' => ∃ y, m y < m x ∧ I y ∧ R' = Rf y ∧ chk s' (mods y) ∧ chk s' base) Q)) (hb : keepOf s keep = base := by simp only [E.keepOf, E.get, E.ev, E.cv, E.fill', E.fill, E.slotsOf, Res.sh, AC.sh, AC.sh.shs, AV.sh, E.splice, List.map_cons, List.map_nil, List.cons_append, List.nil_append, List.append_nil, List.length_cons, List.length_nil, List.take_zero, List.drop_zero, List.take_succ_cons, List.drop_succ_cons, List.drop_nil, List.take_nil, List.set_cons_zero, List.set_cons_succ, Nat.zero_add, Nat.add_zero, Nat.reduceAdd, Nat.reduceSub, reduceIte, Nat.reduceEqDiff, E.back, E.backR, E.ix, Res.un, AC.un, AC.un.uns, AV.un, E.un, Option.map_some, Option.map_none, Option.getD_some, List.getElem?_cons_zero, List.getElem?_cons_succ, List.getElem?_nil, crkR, crkO]; rfl) : ECode P N (.loop c) s R Q := E_for keep mods Rf I m x0 hb h0 hR h1 round

set_option maxRecDepth 20000 in
set_option maxHeartbeats 8000000 in
theorem c_impl_ApplySwaps (c : Crk) (sw : List (Int × Int)) (hb : c.vals.length ≤ 1048576 ∧ c.rows.length ≤ 1048576 ∧ c.piv.length ≤ 1048576) (hl : c.rows.length = c.vals.length) (hbs : sw.length ≤ 1048576) (hsw : swIn 0 c.vals.length sw) : EFn Tryz.prog 82 [.agg (crkC c), .c (.ro (pairs sw))] [] (fun r S => r = .tup [(true, crkO 0 (swaped c sw)), (false, [.sc (.bool true)])] ∧ S = crkR 3 76 (swaped c sw)) := by
 refine E_fn Tryz.func82 rfl (Nat.le_of_ble_eq_true rfl) ?_
 refine E_G (n := 0) rfl ?_
 refine G_seq ?_
 refine G_region' (L := [0, 1, 2]) rfl ?_
 refine x_box rfl rfl rfl rfl rfl ?_
 refine x_alloc rfl rfl rfl rfl za_29 ?_
 refine xas ?_
 refine EOps_nil ?_
 refine G_seq ?_
 refine g_tidy_A37_0 [0, 1, 2, 4, 5] ?_
 refine G_drawT mixed ?_
 refine t_light 0 rfl rfl rfl (L_load rfl (by first | exact d_bp ty_29 | exact ld_rp ty_29 rfl | exact d_ep ty_29)) ?_
 refine t_old 2 rfl rfl rfl (l_field rfl fo_29_0) ?_
 refine t_light 3 rfl rfl rfl (L_load rfl (by first | exact d_bp ty_22 | exact ld_rp ty_22 rfl | exact d_ep ty_22)) ?_
 refine t_old 4 rfl rfl rfl (l_len rfl sl_22) ?_
 refine t_main 2 [(⟨none, 5, 6, 0⟩, _)] [(1, false)] [11] [(6, .any), (11, .any)] [1, 5] ⟨.one rfl rfl rfl (by decide) (F_alloc rfl za_29), trivial⟩ ?_
 refine m_call rfl rfl rfl rfl rfl ca_80 (c_impl_copyCracker c hb) ?_
 rintro r S ⟨rfl, rfl⟩
 refine m_done ?_
 refine fk_cons ?_
 rintro r S ⟨rfl, rfl⟩
 refine fk_nil ?_
 refine t_store 6 rfl rfl rfl rfl rfl rfl (s_bp ty_29) ?_
 refine t_old 7 rfl rfl rfl (L_assign rfl) ?_
 refine T_done (by kernel_rfl) ?_
 refine G_seq ?_
 refine G_seq ?_
 refine G_region' (L := [0, 1, 2, 3, 4]) rfl ?_
 refine x_pure rfl rfl rfl (l_field rfl fo_29_1) ?_
 refine x_light rfl rfl rfl (L_load rfl (by first | exact d_bp ty_22 | exact ld_rp ty_22 rfl | exact d_ep ty_22)) ?_
 refine x_pure rfl rfl rfl (l_len rfl sl_22) ?_
 refine xmv ?_
 refine x_pure rfl rfl rfl (L_bin rfl rfl rfl rfl) ?_
 refine EOps_nil ?_
 refine G_cond rfl (fun hc19 => ?_) (fun hc19 => ?_)
 ·simp [ints_len, hl] at hc19
 ·refine G_skip ?_
  refine G_seq ?_
  refine G_seq ?_
  refine G_region' (L := [0, 1, 2]) rfl ?_
  refine xmv ?_
  refine x_pure rfl rfl rfl (l_len rfl sl_99) ?_
  refine xmv ?_
  refine EOps_nil ?_
  refine G_block ?_
  refine g_forD_A37_1 (α := Nat) [0, 1, 2, 4, 6, 7, 19, 21, 22] (fun k => [(23, .c (.sc (.int .i64 (k))))]) (fun k => [.box (crkC c), _, .row 3 1 (ints (swps c.vals (sw.take k))), .row 3 1 (ints (swps c.rows (sw.take k))), .row 76 2 (pairs c.piv), .box (crkO 2 c)]) (fun k => k ≤ sw.length) (fun k => sw.length - k) (0) ?_ (rfl) ⟨.inr rfl, trivial⟩ ?_
  ·simp
  rintro k hk
  refine G_seq ?_
  refine G_region' (L := [0]) rfl ?_
  refine x_pure rfl rfl rfl (L_bin rfl rfl rfl rfl) ?_
  refine EOps_nil ?_
  refine G_seq ?_
  refine G_cond rfl (fun hc24 => ?_) (fun hc24 => ?_)
  ·have hk1 : k < sw.length := by simpa [pairs_len] using hc24
   obtain ⟨s, hs⟩ := at_lt hk1
   obtain ⟨i, e, rfl, hi, he⟩ := swIn_at hsw hs
   have hst1 := swps_step (l := c.vals) hs
   have hst2 := swps_step (l := c.rows) hs
   have hln1 := swps_len (sw.take k) c.vals
   have hln2 := swps_len (sw.take k) c.rows
   generalize swps c.vals (sw.take k) = lv at *
   generalize swps c.rows (sw.take k) = lr at *
   obtain ⟨x, hx⟩ := at_lt (l := lv) (k := i) (by omega)
   obtain ⟨y, hy⟩ := at_lt (l := lv) (k := e) (by omega)
   obtain ⟨x', hx'⟩ := at_lt (l := lr) (k := i) (by omega)
   obtain ⟨y', hy'⟩ := at_lt (l := lr) (k := e) (by omega)
   refine G_skip ?_
   refine G_seq ?_
   refine G_block ?_
   refine G_seq ?_
   refine G_region' (L := [0, 1, 2, 3]) rfl ?_
   refine x_pure rfl rfl rfl (L_index rfl rfl (by first | exact i_ro sl_99 ty_120 | exact i_sl sl_99 ty_120)) ?_
   refine x_light rfl rfl rfl (L_load rfl (by first | exact d_bp ty_120 | exact ld_rp ty_120 rfl | exact d_ep ty_120)) ?_
   refine x_alloc rfl rfl rfl rfl za_120 ?_
   refine EOps_go rfl rfl (EOp_store rfl rfl rfl (by first | exact s_bp ty_120 | exact s_ep ty_120) ?_)
   refine EOps_nil ?_
   refine G_seq ?_
   refine G_seq ?_
   refine G_region' (L := [0, 1, 2, 3, 4, 5, 6, 7, 8, 9, 10, 11, 12, 13, 14, 15, 16, 17, 18, 19]) rfl ?_
   refine x_pure rfl rfl rfl (l_field rfl fo_120_0) ?_
   refine x_light rfl rfl rfl (L_load rfl (by first | exact d_bp ty_3 | exact ld_rp ty_3 rfl | exact d_ep ty_3)) ?_
   refine x_pure rfl rfl rfl (L_bin rfl rfl rfl rfl) ?_
   refine xmv ?_
   refine EOps_split 30 (b := _) rfl (fun hg30 => ?_) (fun hg30 => ?_)
   ·exfalso; first | (simp [ints_len] at hg30; done) | (simp [ints_len] at hg30; omega)
   ·refine x_pure rfl rfl rfl (l_field rfl fo_120_0) ?_
    refine x_light rfl rfl rfl (L_load rfl (by first | exact d_bp ty_3 | exact ld_rp ty_3 rfl | exact d_ep ty_3)) ?_
    refine xmv ?_
    refine x_pure rfl rfl rfl (L_bin rfl rfl rfl rfl) ?_
    refine x_pure rfl rfl rfl (L_pick rfl rfl) ?_
    refine xmv ?_
    refine EOps_split 36 (b := _) rfl (fun hg36 => ?_) (fun hg36 => ?_)
    ·exfalso; first | (simp [ints_len] at hg36; done) | (simp [ints_len] at hg36; omega)
    ·refine x_pure rfl rfl rfl (l_field rfl fo_120_1) ?_
     refine x_light rfl rfl rfl (L_load rfl (by first | exact d_bp ty_3 | exact ld_rp ty_3 rfl | exact d_ep ty_3)) ?_
     refine x_pure rfl rfl rfl (L_bin rfl rfl rfl rfl) ?_
     refine x_pure rfl rfl rfl (L_pick rfl rfl) ?_
     refine xmv ?_
     refine EOps_split 41 (b := _) rfl (fun hg41 => ?_) (fun hg41 => ?_)
     ·exfalso; first | (simp [ints_len] at hg41; done) | (simp [ints_len] at hg41; omega)
     ·refine x_pure rfl rfl rfl (l_field rfl fo_120_1) ?_
      refine x_light rfl rfl rfl (L_load rfl (by first | exact d_bp ty_3 | exact ld_rp ty_3 rfl | exact d_ep ty_3)) ?_
      refine xmv ?_
      refine x_pure rfl rfl rfl (L_bin rfl rfl rfl rfl) ?_
      refine x_pure rfl rfl rfl (L_pick rfl rfl) ?_
      refine EOps_nil ?_
      refine G_cond rfl (fun hc46 => ?_) (fun hc46 => ?_)
      ·exfalso; first | (simp [ints_len] at hc46; done) | (simp [ints_len] at hc46; omega)
      ·refine G_skip ?_
       refine G_seq ?_
       refine G_drawB mixed ?_
       refine b_pure 0 rfl rfl rfl (l_field rfl fo_29_0) ?_
       refine b_load 1 rfl rfl rfl rfl rfl (d_bp ty_22) ?_
       refine b_pure 2 rfl rfl rfl (l_field rfl fo_120_0) ?_
       refine b_load 3 rfl rfl rfl rfl rfl (d_bp ty_3) ?_
       refine b_pure 4 rfl rfl rfl (l_field rfl fo_29_0) ?_
       refine b_load 5 rfl rfl rfl rfl rfl (d_bp ty_22) ?_
       refine b_pure 6 rfl rfl rfl (l_field rfl fo_120_1) ?_
       refine b_load 7 rfl rfl rfl rfl rfl (d_bp ty_3) ?_
       refine b_pure 8 rfl rfl rfl (l_field rfl fo_29_0) ?_
       refine b_load 9 rfl rfl rfl rfl rfl (d_bp ty_22) ?_
       refine b_pure 10 rfl rfl rfl (l_field rfl fo_120_1) ?_
       refine b_load 11 rfl rfl rfl rfl rfl (d_bp ty_3) ?_
       refine b_pure 12 rfl rfl rfl (L_index rfl rfl (by first | exact i_ro sl_22 ty_3 | exact i_sl sl_22 ty_3)) ?_
       refine b_pure 14 rfl rfl rfl (l_field rfl fo_29_0) ?_
       refine b_load 15 rfl rfl rfl rfl rfl (d_bp ty_22) ?_
       refine b_pure 16 rfl rfl rfl (l_field rfl fo_120_0) ?_
       refine b_load 17 rfl rfl rfl rfl rfl (d_bp ty_3) ?_
       refine b_pure 18 rfl rfl rfl (L_index rfl rfl (by first | exact i_ro sl_22 ty_3 | exact i_sl sl_22 ty_3)) ?_
       refine B_two 13 19 ?_ ?_
       ·refine b_see 13 rfl rfl rfl (L_load rfl (by first | exact d_bp ty_3 | exact ld_rp ty_3 rfl | exact d_ep ty_3)) ?_
        refine B_one 19 ?_
        refine b_see 19 rfl rfl rfl (L_load rfl (by first | exact d_bp ty_3 | exact ld_rp ty_3 rfl | exact d_ep ty_3)) ?_
        refine b_pure 20 rfl rfl rfl (L_index rfl rfl (by first | exact i_ro sl_22 ty_3 | exact i_sl sl_22 ty_3)) ?_
        refine B_one 21 ?_
        refine b_store 21 rfl rfl rfl rfl rfl rfl (s_ep ty_3) ?_
        refine b_pure 22 rfl rfl rfl (L_index rfl rfl (by first | exact i_ro sl_22 ty_3 | exact i_sl sl_22 ty_3)) ?_
        refine B_one 23 ?_
        refine b_store 23 rfl rfl rfl rfl rfl rfl (s_ep (row := [T.sc (.int .i64 y)]) ty_3 (hr := by simp only [Int.toNat_natCast, Nat.zero_add]; exact set_atI hy)) ?_
        refine B_done (by kernel_rfl) ?_
        refine G_drawB mixed ?_
        refine b_pure 0 rfl rfl rfl (l_field rfl fo_29_1) ?_
        refine b_load 1 rfl rfl rfl rfl rfl (d_bp ty_22) ?_
        refine b_pure 2 rfl rfl rfl (l_field rfl fo_120_0) ?_
        refine b_load 3 rfl rfl rfl rfl rfl (d_bp ty_3) ?_
        refine b_pure 4 rfl rfl rfl (l_field rfl fo_29_1) ?_
        refine b_load 5 rfl rfl rfl rfl rfl (d_bp ty_22) ?_
        refine b_pure 6 rfl rfl rfl (l_field rfl fo_120_1) ?_
        refine b_load 7 rfl rfl rfl rfl rfl (d_bp ty_3) ?_
        refine b_pure 8 rfl rfl rfl (l_field rfl fo_29_1) ?_
        refine b_load 9 rfl rfl rfl rfl rfl (d_bp ty_22) ?_
        refine b_pure 10 rfl rfl rfl (l_field rfl fo_120_1) ?_
        refine b_load 11 rfl rfl rfl rfl rfl (d_bp ty_3) ?_
        refine b_pure 12 rfl rfl rfl (L_index rfl rfl (by first | exact i_ro sl_22 ty_3 | exact i_sl sl_22 ty_3)) ?_
        refine b_pure 14 rfl rfl rfl (l_field rfl fo_29_1) ?_
        refine b_load 15 rfl rfl rfl rfl rfl (d_bp ty_22) ?_
        refine b_pure 16 rfl rfl rfl (l_field rfl fo_120_0) ?_
        refine b_load 17 rfl rfl rfl rfl rfl (d_bp ty_3) ?_
        refine b_pure 18 rfl rfl rfl (L_index rfl rfl (by first | exact i_ro sl_22 ty_3 | exact i_sl sl_22 ty_3)) ?_
        refine B_two 13 19 ?_ ?_
        ·refine b_see 13 rfl rfl rfl (L_load rfl (by first | exact d_bp ty_3 | exact ld_rp ty_3 rfl | exact d_ep ty_3)) ?_
         refine B_one 19 ?_
         refine b_see 19 rfl rfl rfl (L_load rfl (by first | exact d_bp ty_3 | exact ld_rp ty_3 rfl | exact d_ep ty_3)) ?_
         refine b_pure 20 rfl rfl rfl (L_index rfl rfl (by first | exact i_ro sl_22 ty_3 | exact i_sl sl_22 ty_3)) ?_
         refine B_one 21 ?_
         refine b_store 21 rfl rfl rfl rfl rfl rfl (s_ep ty_3) ?_
         refine b_pure 22 rfl rfl rfl (L_index rfl rfl (by first | exact i_ro sl_22 ty_3 | exact i_sl sl_22 ty_3)) ?_
         refine B_one 23 ?_
         refine b_store 23 rfl rfl rfl rfl rfl rfl (s_ep (row := [T.sc (.int .i64 y')]) ty_3 (hr := by simp only [Int.toNat_natCast, Nat.zero_add]; exact set_atI hy')) ?_
         refine B_done (by kernel_rfl) ?_
         refine G_region' (L := [0, 1]) rfl ?_
         refine x_pure rfl rfl rfl (by first | exact l_add rfl rfl rfl | exact L_bin rfl rfl rfl rfl) ?_
         refine xmv ?_
         refine EOps_nil ?_
         refine ⟨[0, 1, 2, 3, 4, 5], rfl, k + 1, ?_, ?_, (by rw [hst1, hst2, ← swp_of hx hy, ← swp_of hx' hy', ← ints_set, ← ints_set, ← ints_set, ← ints_set]; dsimp only; simp only [Int.toNat_natCast, Nat.zero_add]; rfl), ⟨.inr rfl, trivial⟩, ⟨.inr rfl, .inr rfl, .inr rfl, .inr rfl, .inr rfl, .inr rfl, .inr rfl, .inr rfl, .inr rfl, trivial⟩⟩
         ·first | omega | (dsimp only; omega) | (simp; omega)
         ·first | trivial | omega | (dsimp only; omega) | (simp; omega)
        ·refine b_see 19 rfl rfl rfl (L_load rfl (by first | exact d_bp ty_3 | exact ld_rp ty_3 rfl | exact d_ep ty_3)) ?_
         refine B_one 13 ?_
         refine b_see 13 rfl rfl rfl (L_load rfl (by first | exact d_bp ty_3 | exact ld_rp ty_3 rfl | exact d_ep ty_3)) ?_
         refine b_pure 20 rfl rfl rfl (L_index rfl rfl (by first | exact i_ro sl_22 ty_3 | exact i_sl sl_22 ty_3)) ?_
         refine B_one 21 ?_
         refine b_store 21 rfl rfl rfl rfl rfl rfl (s_ep ty_3) ?_
         refine b_pure 22 rfl rfl rfl (L_index rfl rfl (by first | exact i_ro sl_22 ty_3 | exact i_sl sl_22 ty_3)) ?_
         refine B_one 23 ?_
         refine b_store 23 rfl rfl rfl rfl rfl rfl (s_ep (row := [T.sc (.int .i64 y')]) ty_3 (hr := by simp only [Int.toNat_natCast, Nat.zero_add]; exact set_atI hy')) ?_
         refine B_done (by kernel_rfl) ?_
         refine G_region' (L := [0, 1]) rfl ?_
         refine x_pure rfl rfl rfl (by first | exact l_add rfl rfl rfl | exact L_bin rfl rfl rfl rfl) ?_
         refine xmv ?_
         refine EOps_nil ?_
         refine ⟨[0, 1, 2, 3, 4, 5], rfl, k + 1, ?_, ?_, (by rw [hst1, hst2, ← swp_of hx hy, ← swp_of hx' hy', ← ints_set, ← ints_set, ← ints_set, ← ints_set]; dsimp only; simp only [Int.toNat_natCast, Nat.zero_add]; rfl), ⟨.inr rfl, trivial⟩, ⟨.inr rfl, .inr rfl, .inr rfl, .inr rfl, .inr rfl, .inr rfl, .inr rfl, .inr rfl, .inr rfl, trivial⟩⟩
         ·first | omega | (dsimp only; omega) | (simp; omega)
         ·first | trivial | omega | (dsimp only; omega) | (simp; omega)
       ·refine b_see 19 rfl rfl rfl (L_load rfl (by first | exact d_bp ty_3 | exact ld_rp ty_3 rfl | exact d_ep ty_3)) ?_
        refine B_one 13 ?_
        refine b_see 13 rfl rfl rfl (L_load rfl (by first | exact d_bp ty_3 | exact ld_rp ty_3 rfl | exact d_ep ty_3)) ?_
        refine b_pure 20 rfl rfl rfl (L_index rfl rfl (by first | exact i_ro sl_22 ty_3 | exact i_sl sl_22 ty_3)) ?_
        refine B_one 21 ?_
        refine b_store 21 rfl rfl rfl rfl rfl rfl (s_ep ty_3) ?_
        refine b_pure 22 rfl rfl rfl (L_index rfl rfl (by first | exact i_ro sl_22 ty_3 | exact i_sl sl_22 ty_3)) ?_
        refine B_one 23 ?_
        refine b_store 23 rfl rfl rfl rfl rfl rfl (s_ep (row := [T.sc (.int .i64 y)]) ty_3 (hr := by simp only [Int.toNat_natCast, Nat.zero_add]; exact set_atI hy)) ?_
        refine B_done (by kernel_rfl) ?_
        refine G_drawB mixed ?_
        refine b_pure 0 rfl rfl rfl (l_field rfl fo_29_1) ?_
        refine b_load 1 rfl rfl rfl rfl rfl (d_bp ty_22) ?_
        refine b_pure 2 rfl rfl rfl (l_field rfl fo_120_0) ?_
        refine b_load 3 rfl rfl rfl rfl rfl (d_bp ty_3) ?_
        refine b_pure 4 rfl rfl rfl (l_field rfl fo_29_1) ?_
        refine b_load 5 rfl rfl rfl rfl rfl (d_bp ty_22) ?_
        refine b_pure 6 rfl rfl rfl (l_field rfl fo_120_1) ?_
        refine b_load 7 rfl rfl rfl rfl rfl (d_bp ty_3) ?_
        refine b_pure 8 rfl rfl rfl (l_field rfl fo_29_1) ?_
        refine b_load 9 rfl rfl rfl rfl rfl (d_bp ty_22) ?_
        refine b_pure 10 rfl rfl rfl (l_field rfl fo_120_1) ?_
        refine b_load 11 rfl rfl rfl rfl rfl (d_bp ty_3) ?_
        refine b_pure 12 rfl rfl rfl (L_index rfl rfl (by first | exact i_ro sl_22 ty_3 | exact i_sl sl_22 ty_3)) ?_
        refine b_pure 14 rfl rfl rfl (l_field rfl fo_29_1) ?_
        refine b_load 15 rfl rfl rfl rfl rfl (d_bp ty_22) ?_
        refine b_pure 16 rfl rfl rfl (l_field rfl fo_120_0) ?_
        refine b_load 17 rfl rfl rfl rfl rfl (d_bp ty_3) ?_
        refine b_pure 18 rfl rfl rfl (L_index rfl rfl (by first | exact i_ro sl_22 ty_3 | exact i_sl sl_22 ty_3)) ?_
        refine B_two 13 19 ?_ ?_
        ·refine b_see 13 rfl rfl rfl (L_load rfl (by first | exact d_bp ty_3 | exact ld_rp ty_3 rfl | exact d_ep ty_3)) ?_
         refine B_one 19 ?_
         refine b_see 19 rfl rfl rfl (L_load rfl (by first | exact d_bp ty_3 | exact ld_rp ty_3 rfl | exact d_ep ty_3)) ?_
         refine b_pure 20 rfl rfl rfl (L_index rfl rfl (by first | exact i_ro sl_22 ty_3 | exact i_sl sl_22 ty_3)) ?_
         refine B_one 21 ?_
         refine b_store 21 rfl rfl rfl rfl rfl rfl (s_ep ty_3) ?_
         refine b_pure 22 rfl rfl rfl (L_index rfl rfl (by first | exact i_ro sl_22 ty_3 | exact i_sl sl_22 ty_3)) ?_
         refine B_one 23 ?_
         refine b_store 23 rfl rfl rfl rfl rfl rfl (s_ep (row := [T.sc (.int .i64 y')]) ty_3 (hr := by simp only [Int.toNat_natCast, Nat.zero_add]; exact set_atI hy')) ?_
         refine B_done (by kernel_rfl) ?_
         refine G_region' (L := [0, 1]) rfl ?_
         refine x_pure rfl rfl rfl (by first | exact l_add rfl rfl rfl | exact L_bin rfl rfl rfl rfl) ?_
         refine xmv ?_
         refine EOps_nil ?_
         refine ⟨[0, 1, 2, 3, 4, 5], rfl, k + 1, ?_, ?_, (by rw [hst1, hst2, ← swp_of hx hy, ← swp_of hx' hy', ← ints_set, ← ints_set, ← ints_set, ← ints_set]; dsimp only; simp only [Int.toNat_natCast, Nat.zero_add]; rfl), ⟨.inr rfl, trivial⟩, ⟨.inr rfl, .inr rfl, .inr rfl, .inr rfl, .inr rfl, .inr rfl, .inr rfl, .inr rfl, .inr rfl, trivial⟩⟩
         ·first | omega | (dsimp only; omega) | (simp; omega)
         ·first | trivial | omega | (dsimp only; omega) | (simp; omega)
        ·refine b_see 19 rfl rfl rfl (L_load rfl (by first | exact d_bp ty_3 | exact ld_rp ty_3 rfl | exact d_ep ty_3)) ?_
         refine B_one 13 ?_
         refine b_see 13 rfl rfl rfl (L_load rfl (by first | exact d_bp ty_3 | exact ld_rp ty_3 rfl | exact d_ep ty_3)) ?_
         refine b_pure 20 rfl rfl rfl (L_index rfl rfl (by first | exact i_ro sl_22 ty_3 | exact i_sl sl_22 ty_3)) ?_
         refine B_one 21 ?_
         refine b_store 21 rfl rfl rfl rfl rfl rfl (s_ep ty_3) ?_
         refine b_pure 22 rfl rfl rfl (L_index rfl rfl (by first | exact i_ro sl_22 ty_3 | exact i_sl sl_22 ty_3)) ?_
         refine B_one 23 ?_
         refine b_store 23 rfl rfl rfl rfl rfl rfl (s_ep (row := [T.sc (.int .i64 y')]) ty_3 (hr := by simp only [Int.toNat_natCast, Nat.zero_add]; exact set_atI hy')) ?_
         refine B_done (by kernel_rfl) ?_
         refine G_region' (L := [0, 1]) rfl ?_
         refine x_pure rfl rfl rfl (by first | exact l_add rfl rfl rfl | exact L_bin rfl rfl rfl rfl) ?_
         refine xmv ?_
         refine EOps_nil ?_
         refine ⟨[0, 1, 2, 3, 4, 5], rfl, k + 1, ?_, ?_, (by rw [hst1, hst2, ← swp_of hx hy, ← swp_of hx' hy', ← ints_set, ← ints_set, ← ints_set, ← ints_set]; dsimp only; simp only [Int.toNat_natCast, Nat.zero_add]; rfl), ⟨.inr rfl, trivial⟩, ⟨.inr rfl, .inr rfl, .inr rfl, .inr rfl, .inr rfl, .inr rfl, .inr rfl, .inr rfl, .inr rfl, trivial⟩⟩
         ·first | omega | (dsimp only; omega) | (simp; omega)
         ·first | trivial | omega | (dsimp only; omega) | (simp; omega)
  ·have hk2 : sw.take k = sw := List.take_of_length_le (by simpa [pairs_len] using hc24)
   refine G_exit ?_
   refine G_seq ?_
   refine G_region' (L := [0, 1, 2]) rfl ?_
   refine x_light rfl rfl rfl (L_load rfl (by first | exact d_bp ty_29 | exact ld_rp ty_29 rfl | exact d_ep ty_29)) ?_
   refine EOps_go rfl rfl (EOp_store rfl rfl rfl (by first | exact s_bp ty_29 | exact s_ep ty_29) ?_)
   refine xas ?_
   refine EOps_nil ?_
   refine G_ret ?_
   refine ⟨_, [2, 3, 4], rfl, rfl, ?_, ?_⟩
   ·simp only [crkO, swaped, swps_len]; rfl
   ·rw [hk2]; rfl

set_option maxRecDepth 20000 in
set_option maxHeartbeats 2000000 in
theorem c_spec_l5Swap (l : List Int) (n i e : Nat) (x y : Int) (hn : l.length = n) (hx : l[i]? = some x) (hy : l[e]? = some y) : EFn Tryz.prog 64 [.c (.sl 0 0 n n), .c (.sc (.int .i64 (i : Int))), .c (.sc (.int .i64 (e : Int)))] [.row 3 1 (ints l)] (fun r S => r = .tup [] ∧ S = [.row 3 1 (ints (swp l ((i : Int), (e : Int))))]) := by
 refine E_fnM Tryz.func64 rfl (Nat.le_of_ble_eq_true rfl) ?_
 have hin : i < n := by
  rw [← hn]
  rcases Nat.lt_or_ge i l.length with h' | h'
  ·exact h'
  ·rw [List.getElem?_eq_none h'] at hx; cases hx
 have hen : e < n := by
  rw [← hn]
  rcases Nat.lt_or_ge e l.length with h' | h'
  ·exact h'
  ·rw [List.getElem?_eq_none h'] at hy; cases hy
 have hil : (ints l).length = n := (ints_len l).trans hn
 refine E_seq ?_
 refine E_region' (L := [0, 1, 2, 3, 4]) rfl ?_
 refine xmv ?_
 refine xmv ?_
 refine x_pure rfl rfl rfl (L_index rfl rfl (by first | exact i_ro sl_22 ty_3 | exact i_sl sl_22 ty_3)) ?_
 refine x_light rfl rfl rfl (L_load rfl (by first | exact d_bp ty_3 | exact ld_rp ty_3 rfl | exact d_ep ty_3)) ?_
 refine xas ?_
 refine EOps_nil ?_
 refine E_seq ?_
 refine E_region' (L := [0, 1, 2, 3, 4, 5, 6, 7]) rfl ?_
 refine xmv ?_
 refine xmv ?_
 refine xmv ?_
 refine xmv ?_
 refine x_pure rfl rfl rfl (L_index rfl rfl (by first | exact i_ro sl_22 ty_3 | exact i_sl sl_22 ty_3)) ?_
 refine x_light rfl rfl rfl (L_load rfl (by first | exact d_bp ty_3 | exact ld_rp ty_3 rfl | exact d_ep ty_3)) ?_
 refine x_pure rfl rfl rfl (L_index rfl rfl (by first | exact i_ro sl_22 ty_3 | exact i_sl sl_22 ty_3)) ?_
 refine EOps_go rfl rfl (EOp_store rfl rfl rfl (by first | exact s_bp ty_3 | exact s_ep ty_3) ?_)
 refine EOps_nil ?_
 refine E_region' (L := [0, 1, 2, 3, 4]) rfl ?_
 refine xmv ?_
 refine xmv ?_
 refine xmv ?_
 refine x_pure rfl rfl rfl (L_index rfl rfl (by first | exact i_ro sl_22 ty_3 | exact i_sl sl_22 ty_3)) ?_
 refine EOps_go rfl rfl (EOp_store rfl rfl rfl (s_ep (row := [T.sc (.int .i64 y)]) ty_3 (hr := by simp only [Int.toNat_natCast, Nat.zero_add]; exact set_atI hy)) ?_)
 refine EOps_nil ?_
 exact ⟨_, rfl, ⟨by simp, fun q cs hq hr h => by
   have : q = 0 := by simpa using hq
   subst this
   cases h
   cases hr⟩, rfl, by rw [← swp_of hx hy, ← ints_set, ← ints_set]; simp only [Int.toNat_natCast, Nat.zero_add]; rfl⟩

set_option maxRecDepth 20000 in
set_option maxHeartbeats 8000000 in
theorem c_spec_ApplySwaps (c : Crk) (sw : List (Int × Int)) (hb : c.vals.length ≤ 1048576 ∧ c.rows.length ≤ 1048576 ∧ c.piv.length ≤ 1048576) (hl : c.rows.length = c.vals.length) (hbs : sw.length ≤ 1048576) (hsw : swIn 0 c.vals.length sw) : EFn Tryz.prog 90 [.agg (crkC c), .c (.ro (pairs sw))] [] (fun r S => r = .tup [(true, crkO 0 (swaped c sw)), (false, [.sc (.bool true)])] ∧ S = crkR 3 76 (swaped c sw)) := by
 refine E_fn Tryz.func90 rfl (Nat.le_of_ble_eq_true rfl) ?_
 refine E_seq ?_
 refine E_region' (L := [0, 1, 2]) rfl ?_
 refine x_box rfl rfl rfl rfl rfl ?_
 refine x_alloc rfl rfl rfl rfl za_29 ?_
 refine xas ?_
 refine EOps_nil ?_
 refine E_seq ?_
 refine e_tidy_A37_2 [0, 1, 2, 4, 5] ?_
 refine E_region' (L := [0, 1, 2, 3]) rfl ?_
 refine x_light rfl rfl rfl (L_load rfl (by first | exact d_bp ty_29 | exact ld_rp ty_29 rfl | exact d_ep ty_29)) ?_
 refine x_call rfl rfl rfl rfl rfl ca_37 (c_spec_l4Copy c hb) ?_
 rintro r S ⟨rfl, rfl⟩
 refine x_alloc rfl rfl rfl rfl za_29 ?_
 refine EOps_go rfl rfl (EOp_store rfl rfl rfl (by first | exact s_bp ty_29 | exact s_ep ty_29) ?_)
 refine EOps_nil ?_
 refine E_seq ?_
 refine E_seq ?_
 refine E_region' (L := [0, 1, 2, 3, 4, 5, 6]) rfl ?_
 refine x_pure rfl rfl rfl (l_field rfl fo_29_1) ?_
 refine x_light rfl rfl rfl (L_load rfl (by first | exact d_bp ty_22 | exact ld_rp ty_22 rfl | exact d_ep ty_22)) ?_
 refine x_pure rfl rfl rfl (l_len rfl sl_22) ?_
 refine x_pure rfl rfl rfl (l_field rfl fo_29_0) ?_
 refine x_light rfl rfl rfl (L_load rfl (by first | exact d_bp ty_22 | exact ld_rp ty_22 rfl | exact d_ep ty_22)) ?_
 refine x_pure rfl rfl rfl (l_len rfl sl_22) ?_
 refine x_pure rfl rfl rfl (L_bin rfl rfl rfl rfl) ?_
 refine EOps_nil ?_
 refine E_cond rfl (fun hc18 => ?_) (fun hc18 => ?_)
 ·simp [ints_len, hl] at hc18
 ·refine E_skip ?_
  refine E_seq ?_
  refine E_seq ?_
  refine E_region' (L := [0]) rfl ?_
  refine xas ?_
  refine EOps_nil ?_
  refine E_block ?_
  refine e_for_A37_3 (α := Nat) [0, 1, 2, 4, 6, 18] (fun k => [(7, .c (.sc (.int .i64 (k))))]) (fun k => [.box (crkC c), _, .row 3 1 (ints (swps c.vals (sw.take k))), .row 3 1 (ints (swps c.rows (sw.take k))), .row 76 2 (pairs c.piv), .box (crkO 2 c)]) (fun k => k ≤ sw.length) (fun k => sw.length - k) (0) ?_ (rfl) ⟨.inr rfl, trivial⟩ ?_
  ·simp
  rintro k hk
  refine E_seq ?_
  refine E_seq ?_
  refine E_region' (L := [0, 1, 2, 3]) rfl ?_
  refine xmv ?_
  refine xmv ?_
  refine x_pure rfl rfl rfl (l_len rfl sl_99) ?_
  refine x_pure rfl rfl rfl (L_bin rfl rfl rfl rfl) ?_
  refine EOps_nil ?_
  refine E_cond rfl (fun hc23 => ?_) (fun hc23 => ?_)
  ·have hk1 : k < sw.length := by simpa [pairs_len] using hc23
   obtain ⟨s, hs⟩ := at_lt hk1
   obtain ⟨i, e, rfl, hi, he⟩ := swIn_at hsw hs
   have hst1 := swps_step (l := c.vals) hs
   have hst2 := swps_step (l := c.rows) hs
   have hln1 := swps_len (sw.take k) c.vals
   have hln2 := swps_len (sw.take k) c.rows
   generalize swps c.vals (sw.take k) = lv at *
   generalize swps c.rows (sw.take k) = lr at *
   obtain ⟨x, hx⟩ := at_lt (l := lv) (k := i) (by omega)
   obtain ⟨y, hy⟩ := at_lt (l := lv) (k := e) (by omega)
   obtain ⟨x', hx'⟩ := at_lt (l := lr) (k := i) (by omega)
   obtain ⟨y', hy'⟩ := at_lt (l := lr) (k := e) (by omega)
   refine E_skip ?_
   refine E_seq ?_
   refine E_block ?_
   refine E_seq ?_
   refine E_region' (L := [0, 1, 2, 3, 4, 5]) rfl ?_
   refine xmv ?_
   refine xmv ?_
   refine x_pure rfl rfl rfl (L_index rfl rfl (by first | exact i_ro sl_99 ty_120 | exact i_sl sl_99 ty_120)) ?_
   refine x_pure rfl rfl rfl (l_field rfl fo_120_0) ?_
   refine x_light rfl rfl rfl (L_load rfl (by first | exact d_bp ty_3 | exact ld_rp ty_3 rfl | exact d_ep ty_3)) ?_
   refine xas ?_
   refine EOps_nil ?_
   refine E_seq ?_
   refine E_region' (L := [0, 1, 2, 3, 4, 5]) rfl ?_
   refine xmv ?_
   refine xmv ?_
   refine x_pure rfl rfl rfl (L_index rfl rfl (by first | exact i_ro sl_99 ty_120 | exact i_sl sl_99 ty_120)) ?_
   refine x_pure rfl rfl rfl (l_field rfl fo_120_1) ?_
   refine x_light rfl rfl rfl (L_load rfl (by first | exact d_bp ty_3 | exact ld_rp ty_3 rfl | exact d_ep ty_3)) ?_
   refine xas ?_
   refine EOps_nil ?_
   refine E_seq ?_
   refine E_seq ?_
   refine e_tidy_A37_2 [0, 1, 2, 4, 5, 6, 7, 8, 9, 18, 23, 51] ?_
   refine E_region' (L := [0, 1, 2, 3, 4, 5, 6, 7, 8, 9, 10, 11, 12, 13, 14, 15]) rfl ?_
   refine xmv ?_
   refine x_pure rfl rfl rfl (l_field rfl fo_29_0) ?_
   refine x_light rfl rfl rfl (L_load rfl (by first | exact d_bp ty_22 | exact ld_rp ty_22 rfl | exact d_ep ty_22)) ?_
   refine x_pure rfl rfl rfl (l_len rfl sl_22) ?_
   refine x_pure rfl rfl rfl (by first | exact l_sub rfl rfl rfl | exact L_bin rfl rfl rfl rfl) ?_
   refine x_call rfl rfl rfl rfl rfl ca_34 (c_spec_l1In i 0 _) ?_
   rintro r S ⟨rfl, rfl⟩
   refine x_pure rfl rfl rfl (L_not rfl rfl) ?_
   refine xmv ?_
   refine EOps_split 43 (b := _) rfl (fun hg43 => ?_) (fun hg43 => ?_)
   ·exfalso; first | (simp [isIn] at hg43; done) | (simp [isIn] at hg43; omega)
   ·refine xmv ?_
    refine x_pure rfl rfl rfl (l_field rfl fo_29_0) ?_
    refine x_light rfl rfl rfl (L_load rfl (by first | exact d_bp ty_22 | exact ld_rp ty_22 rfl | exact d_ep ty_22)) ?_
    refine x_pure rfl rfl rfl (l_len rfl sl_22) ?_
    refine x_pure rfl rfl rfl (by first | exact l_sub rfl rfl rfl | exact L_bin rfl rfl rfl rfl) ?_
    refine x_call rfl rfl rfl rfl rfl ca_34 (c_spec_l1In e 0 _) ?_
    rintro r S ⟨rfl, rfl⟩
    refine x_pure rfl rfl rfl (L_not rfl rfl) ?_
    refine x_pure rfl rfl rfl (L_pick rfl rfl) ?_
    refine EOps_nil ?_
    refine E_cond rfl (fun hc51 => ?_) (fun hc51 => ?_)
    ·exfalso; first | (simp [isIn] at hc51; done) | (simp [isIn] at hc51; omega)
    ·refine E_skip ?_
     refine E_seq ?_
     refine e_tidy_A37_2 [0, 1, 2, 4, 5, 6, 7, 8, 9, 18, 23, 51] ?_
     refine E_region' (L := [0, 1, 2, 3, 4]) rfl ?_
     refine x_pure rfl rfl rfl (l_field rfl fo_29_0) ?_
     refine x_light rfl rfl rfl (L_load rfl (by first | exact d_bp ty_22 | exact ld_rp ty_22 rfl | exact d_ep ty_22)) ?_
     refine xmv ?_
     refine xmv ?_
     refine x_frame [2] rfl rfl rfl rfl rfl ca_64 rfl (c_spec_l5Swap lv c.vals.length i e x y hln1 hx hy) ?_
     rintro r S ⟨r0, S0, ⟨rfl, rfl⟩, rfl, rfl⟩
     refine EOps_nil ?_
     refine e_tidy_A37_2 [0, 1, 2, 4, 5, 6, 7, 8, 9, 18, 23, 51] ?_
     refine E_region' (L := [0, 1, 2, 3, 4]) rfl ?_
     refine x_pure rfl rfl rfl (l_field rfl fo_29_1) ?_
     refine x_light rfl rfl rfl (L_load rfl (by first | exact d_bp ty_22 | exact ld_rp ty_22 rfl | exact d_ep ty_22)) ?_
     refine xmv ?_
     refine xmv ?_
     refine x_frame [3] rfl rfl rfl rfl rfl ca_64 rfl (c_spec_l5Swap lr c.rows.length i e x' y' hln2 hx' hy') ?_
     rintro r S ⟨r0, S0, ⟨rfl, rfl⟩, rfl, rfl⟩
     refine EOps_nil ?_
     refine E_region' (L := [0, 1, 2]) rfl ?_
     refine xmv ?_
     refine x_pure rfl rfl rfl (by first | exact l_add rfl rfl rfl | exact L_bin rfl rfl rfl rfl) ?_
     refine xas ?_
     refine EOps_nil ?_
     refine ⟨k + 1, ?_, ?_, (by rw [hst1, hst2]; rfl), ⟨.inr rfl, trivial⟩, ⟨.inr rfl, .inr rfl, .inr rfl, .inr rfl, .inr rfl, .inr rfl, trivial⟩⟩
     ·first | omega | (dsimp only; omega) | (simp; omega)
     ·first | trivial | omega | (dsimp only; omega) | (simp; omega)
  ·have hk2 : sw.take k = sw := List.take_of_length_le (by simpa [pairs_len] using hc23)
   refine E_exit ?_
   refine E_seq ?_
   refine E_region' (L := [0, 1, 2]) rfl ?_
   refine x_light rfl rfl rfl (L_load rfl (by first | exact d_bp ty_29 | exact ld_rp ty_29 rfl | exact d_ep ty_29)) ?_
   refine EOps_go rfl rfl (EOp_store rfl rfl rfl (by first | exact s_bp ty_29 | exact s_ep ty_29) ?_)
   refine xas ?_
   refine EOps_nil ?_
   refine E_ret ?_
   refine ⟨_, [2, 3, 4], rfl, rfl, ?_, ?_⟩
   ·simp only [crkO, swaped, swps_len]; rfl
   ·rw [hk2]; rfl

end Go.Proofs.YthnadkagchbhbaaGreat.E
