/- Walks through functions, by program out of the session's annotations. -/
import Derived.Test.YthnadkagchbhbaaGreatA38
import Derived.Test.YthnadkagchbhbaaGreatF3
namespace Go.Proofs.YthnadkagchbhbaaGreat.E
open Go Go.RowKit Go.Proofs
set_option linter.unusedVariables false
set_option linter.unusedSimpArgs false

theorem insPv_end {l : List (Int × Int)} {p : Int × Int} (h : ∀ q ∈ l, ¬ p.1 < q.1) : l ++ [p] = insPv l p := by
 rw [insPv, cutIx_none h]; simp
theorem insPv_here {l : List (Int × Int)} {p x : Int × Int} {k : Nat} (h : ∀ q ∈ l.take k, ¬ p.1 < q.1) (hx : l[k]? = some x) (hv : p.1 < x.1) : l.take k ++ [p] ++ l.drop k = insPv l p := by
 rw [insPv, cutIx_at h hx hv]
theorem drop_at {l : List (Int × Int)} {k : Nat} {x : Int × Int} (h : l[k]? = some x) : [x] ++ l.drop (k + 1) = l.drop k := by
 have hk : k < l.length := by
  rcases Nat.lt_or_ge k l.length with h' | h'
  ·exact h'
  ·rw [List.getElem?_eq_none h'] at h; cases h
 rw [List.drop_eq_getElem_cons hk]
 rw [List.getElem?_eq_getElem hk] at h; cases h; rfl
theorem take_at {l : List (Int × Int)} {k : Nat} {x : Int × Int} (h : l[k]? = some x) : l.take k ++ [x] = l.take (k + 1) := by
 have hk : k < l.length := by
  rcases Nat.lt_or_ge k l.length with h' | h'
  ·exact h'
  ·rw [List.getElem?_eq_none h'] at h; cases h
 rw [List.take_succ_eq_append_getElem hk]
 rw [List.getElem?_eq_getElem hk] at h; cases h; rfl
/-- How far the pivots are written down. -/
def insI (l : List (Int × Int)) (p : Int × Int) (k : Nat) (d : Bool) (acc : List (Int × Int)) : Prop := if d = true then acc ++ l.drop k = insPv l p else acc = l.take k ∧ ∀ q ∈ l.take k, ¬ p.1 < q.1
theorem insI_new {l : List (Int × Int)} {p x : Int × Int} {k : Nat} {acc : List (Int × Int)} (h : insI l p k false acc) (hx : l[k]? = some x) (hv : p.1 < x.1) : insI l p (k + 1) true ((acc ++ [p]) ++ [x]) := by
 simp only [insI, Bool.false_eq_true, if_false] at h
 simp only [insI, if_true]
 rw [List.append_assoc, drop_at hx, h.1]
 exact insPv_here h.2 hx hv
theorem insI_on {l : List (Int × Int)} {p x : Int × Int} {k : Nat} {acc : List (Int × Int)} (h : insI l p k false acc) (hx : l[k]? = some x) (hv : ¬ p.1 < x.1) : insI l p (k + 1) false (acc ++ [x]) := by
 simp only [insI, Bool.false_eq_true, if_false] at h ⊢
 refine ⟨by rw [h.1, take_at hx], fun q hq => ?_⟩
 rw [← take_at hx, List.mem_append] at hq
 rcases hq with hq | hq
 ·exact h.2 q hq
 ·obtain rfl : q = x := by simpa using hq
  exact hv
theorem insI_done {l : List (Int × Int)} {p x : Int × Int} {k : Nat} {acc : List (Int × Int)} (h : insI l p k true acc) (hx : l[k]? = some x) : insI l p (k + 1) true (acc ++ [x]) := by
 simp only [insI, if_true] at h ⊢
 rw [List.append_assoc, drop_at hx]; exact h

theorem e_tidy_A39_0 {P : Program} {N : Nat} {s : Slots} {R : List Res} {Q : Exit → Slots → List Res → Prop} {c : Code} (keep : List Nat) {base : Slots} {R' : List Res} (h : ECode P N c base R' Q) (hb : keepOf s keep = base := by simp only [E.keepOf, E.get, E.ev, E.cv, E.fill', E.fill, E.slotsOf, Res.sh, AC.sh, AC.sh.shs, AV.sh, E.splice, List.map_cons, List.map_nil, List.cons_append, List.nil_append, List.append_nil, List.length_cons, List.length_nil, List.take_zero, List.drop_zero, List.take_succ_cons, List.drop_succ_cons, List.drop_nil, List.take_nil, List.set_cons_zero, List.set_cons_succ, Nat.zero_add, Nat.add_zero, Nat.reduceAdd, Nat.reduceSub, reduceIte, Nat.reduceEqDiff, E.back, E.backR, E.ix, Res.un, AC.un, AC.un.uns, AV.un, E.un, Option.map_some, Option.map_none, Option.getD_some, List.getElem?_cons_zero, List.getElem?_cons_succ, List.getElem?_nil, crkR, crkO, pairs_app]; rfl) (hR : R = R' := by (try simp only [E.keepOf, E.get, E.ev, E.cv, E.fill', E.fill, E.slotsOf, Res.sh, AC.sh, AC.sh.shs, AV.sh, E.splice, List.map_cons, List.map_nil, List.cons_append, List.nil_append, List.append_nil, List.length_cons, List.length_nil, List.take_zero, List.drop_zero, List.take_succ_cons, List.drop_succ_cons, List.drop_nil, List.take_nil, List.set_cons_zero, List.set_cons_succ, Nat.zero_add, Nat.add_zero, Nat.reduceAdd, Nat.reduceSub, reduceIte, Nat.reduceEqDiff, E.back, E.backR, E.ix, Res.un, AC.un, AC.un.uns, AV.un, E.un, Option.map_some, Option.map_none, Option.getD_some, List.getElem?_cons_zero, List.getElem?_cons_succ, List.getElem?_nil, crkR, crkO, pairs_app]); rfl) : ECode P N c s R Q := E_tidy keep hb hR h
theorem e_for_A39_1 {P : Program} {N : Nat} {s : Slots} {R : List Res} {Q : Exit → Slots → List Res → Prop} {α : Type} {c : Code} (keep : List Nat) (mods : α → Slots) (Rf : α → List Res) (I : α → Prop) (m : α → Nat) (x0 : α) {base : Slots} (h0 : I x0) (hR : R = Rf x0) (h1 : chk s (mods x0))
  (round : ∀ x, I x → ECode P N c (mods x ++ base) (Rf x) (EThen (fun s' R' => ∃ y, m y < m x ∧ I y ∧ R' = Rf y ∧ chk s' (mods y) ∧ chk s' base) Q)) (hb : keepOf s keep = base := by simp only [E.keepOf, E.get, E.ev, E.cv, E.fill', E.fill, E.slotsOf, Res.sh, AC.sh, AC.sh.shs, AV.sh, E.splice, List.map_cons, List.map_nil, List.cons_append, List.nil_append, List.append_nil, List.length_cons, List.length_nil, List.take_zero, List.drop_zero, List.take_succ_cons, List.drop_succ_cons, List.drop_nil, List.take_nil, List.set_cons_zero, List.set_cons_succ, Nat.zero_add, Nat.add_zero, Nat.reduceAdd, Nat.reduceSub, reduceIte, Nat.reduceEqDiff, E.back, E.backR, E.ix, Res.un, AC.un, AC.un.uns, AV.un, E.un, Option.map_some, Option.map_none, Option.getD_some, List.getElem?_cons_zero, List.getElem?_cons_succ, List.getElem?_nil, crkR, crkO, pairs_app]; rfl) : ECode P N (.loop c) s R Q := E_for keep mods Rf I m x0 hb h0 hR h1 round
theorem e_seqJ_A39_2 {P : Program} {N : Nat} {s : Slots} {R : List Res} {Q : Exit → Slots → List Res → Prop} {α : Type} {x y : Code} (keep : List Nat) (mods : α → Slots) (Rf : α → List Res) (I : α → Prop) {base : Slots}
  (hx : ECode P N x s R (EThen (fun s' R' => ∃ z, I z ∧ R' = Rf z ∧ chk s' (mods z) ∧ chk s' base) Q)) (hy : ∀ z, I z → ECode P N y (mods z ++ base) (Rf z) Q) (hb : keepOf s keep = base := by simp only [E.keepOf, E.get, E.ev, E.cv, E.fill', E.fill, E.slotsOf, Res.sh, AC.sh, AC.sh.shs, AV.sh, E.splice, List.map_cons, List.map_nil, List.cons_append, List.nil_append, List.append_nil, List.length_cons, List.length_nil, List.take_zero, List.drop_zero, List.take_succ_cons, List.drop_succ_cons, List.drop_nil, List.take_nil, List.set_cons_zero, List.set_cons_succ, Nat.zero_add, Nat.add_zero, Nat.reduceAdd, Nat.reduceSub, reduceIte, Nat.reduceEqDiff, E.back, E.backR, E.ix, Res.un, AC.un, AC.un.uns, AV.un, E.un, Option.map_some, Option.map_none, Option.getD_some, List.getElem?_cons_zero, List.getElem?_cons_succ, List.getElem?_nil, crkR, crkO, pairs_app]; rfl) : ECode P N (.seq x y) s R Q := E_seqJ keep mods Rf I hb hx hy

set_option maxRecDepth 20000 in
set_option maxHeartbeats 4000000 in
theorem c_spec_AddPivot (c : Crk) (p : Int × Int) (hb : c.vals.length ≤ 1048576 ∧ c.rows.length ≤ 1048576 ∧ c.piv.length ≤ 1048576) (hc : isCrk c = true) (hcp : isCrk (withPv c p) = true) : EFn Tryz.prog 91 [.agg (crkC c), .agg [.sc (.int .i64 p.1), .sc (.int .i64 p.2)]] [] (fun r S => r = .tup [(true, crkO 0 (withPv c p)), (false, [.sc (.bool true)])] ∧ S = crkR 3 76 (withPv c p)) := by
 refine E_fn Tryz.func91 rfl (Nat.le_of_ble_eq_true rfl) ?_
 refine E_seq ?_
 refine E_region' (L := [0, 1, 2, 3]) rfl ?_
 refine x_box rfl rfl rfl rfl rfl ?_
 refine x_box rfl rfl rfl rfl rfl ?_
 refine x_alloc rfl rfl rfl rfl za_29 ?_
 refine xas ?_
 refine EOps_nil ?_
 refine E_seq ?_
 refine e_tidy_A39_0 [0, 1, 2, 3, 4, 5] ?_
 refine E_region' (L := [0, 1, 2, 3]) rfl ?_
 refine x_light rfl rfl rfl (L_load rfl (by first | exact d_bp ty_29 | exact ld_rp ty_29 rfl | exact d_ep ty_29)) ?_
 refine x_call rfl rfl rfl rfl rfl ca_37 (c_spec_l4Copy c hb) ?_
 rintro r S ⟨rfl, rfl⟩
 refine x_alloc rfl rfl rfl rfl za_29 ?_
 refine EOps_go rfl rfl (EOp_store rfl rfl rfl (by first | exact s_bp ty_29 | exact s_ep ty_29) ?_)
 refine EOps_nil ?_
 refine E_seq ?_
 refine E_region' (L := [0, 1, 2]) rfl ?_
 refine EOps_go rfl rfl (Heavy.op (H_bslice rfl rfl (by decide) sl_27 ty_76 za_76 ⟨rfl, by decide⟩ (by decide) rfl rfl rfl rfl ?_))
 refine x_pure rfl rfl rfl (l_field rfl fo_29_2) ?_
 refine EOps_go rfl rfl (EOp_store rfl rfl rfl (by first | exact s_bp ty_27 | exact s_ep ty_27) ?_)
 refine EOps_nil ?_
 refine E_seq ?_
 refine E_region' (L := [0]) rfl ?_
 refine xas ?_
 refine EOps_nil ?_
 refine E_seq ?_
 refine E_seq ?_
 refine E_region' (L := [0]) rfl ?_
 refine xas ?_
 refine EOps_nil ?_
 refine E_block ?_
 refine e_for_A39_1 (α := Nat × Bool × List (Int × Int)) [0, 1, 2, 3, 4, 5, 6] (fun (k, d, acc) => [(8, .c (.sc (.int .i64 (k)))), (7, .c (.sc (.bool (d))))]) (fun (k, d, acc) => [.box (crkC c), .box [.sc (.int .i64 p.1), .sc (.int .i64 p.2)], _, .row 3 1 (ints c.vals), .row 3 1 (ints c.rows), .row 76 2 (pairs c.piv), .box [.sl 3 0 c.vals.length c.vals.length, .sl 4 0 c.rows.length c.rows.length, .sl 7 0 acc.length acc.length], .row 76 2 (pairs acc)]) (fun (k, d, acc) => k ≤ c.piv.length ∧ acc.length ≤ k + d.toNat ∧ insI c.piv p k d acc) (fun (k, d, acc) => c.piv.length - k) ((0, false, [])) ?_ (rfl) ⟨.inr rfl, .inr rfl, trivial⟩ ?_
 ·exact ⟨Nat.zero_le _, by simp, by simp [insI]⟩
 rintro ⟨k, d, acc⟩ ⟨hk, hal, hI⟩
 dsimp only
 have hdt := Bool.toNat_le d
 have hpl : (pairs acc).length = acc.length := pairs_len _
 refine E_seq ?_
 refine E_seq ?_
 refine E_region' (L := [0, 1, 2, 3, 4]) rfl ?_
 refine xmv ?_
 refine x_pure rfl rfl rfl (l_field rfl fo_29_2) ?_
 refine x_light rfl rfl rfl (L_load rfl (by first | exact d_bp ty_27 | exact ld_rp ty_27 rfl | exact d_ep ty_27)) ?_
 refine x_pure rfl rfl rfl (l_len rfl sl_27) ?_
 refine x_pure rfl rfl rfl (L_bin rfl rfl rfl rfl) ?_
 refine EOps_nil ?_
 refine E_cond rfl (fun hc17 => ?_) (fun hc17 => ?_)
 ·have hk1 : k < c.piv.length := by simpa [pairs_len] using hc17
  obtain ⟨x, hx⟩ := at_lt hk1
  refine E_skip ?_
  refine E_seq ?_
  refine E_block ?_
  refine E_seq ?_
  refine E_seq ?_
  refine E_drawT mixed ?_
  refine t_old 0 rfl rfl rfl (L_move rfl) ?_
  refine t_old 1 rfl rfl rfl (L_not rfl rfl) ?_
  refine t_old 2 rfl rfl rfl (L_move rfl) ?_
  refine T_split 22 (b := _) rfl rfl (fun hg22 => ?_) (fun hg22 => ?_)
  ·obtain rfl : d = false := by simpa using hg22
   refine t_old 3 rfl rfl rfl (l_field rfl fo_29_2) ?_
   refine t_light 4 rfl rfl rfl (L_load rfl (by first | exact d_bp ty_27 | exact ld_rp ty_27 rfl | exact d_ep ty_27)) ?_
   refine t_old 5 rfl rfl rfl (L_move rfl) ?_
   refine t_old 6 rfl rfl rfl (L_index rfl rfl (by first | exact i_ro sl_27 ty_76 | exact i_sl sl_27 ty_76)) ?_
   refine t_old 7 rfl rfl rfl (l_field rfl fo_76_0) ?_
   refine t_light 8 rfl rfl rfl (L_load rfl (by first | exact d_bp ty_3 | exact ld_rp ty_3 rfl | exact d_ep ty_3)) ?_
   refine t_old 9 rfl rfl rfl (l_field rfl fo_76_0) ?_
   refine t_light 10 rfl rfl rfl (L_load rfl (by first | exact d_bp ty_3 | exact ld_rp ty_3 rfl | exact d_ep ty_3)) ?_
   refine t_old 11 rfl rfl rfl (L_bin rfl rfl rfl rfl) ?_
   refine t_old 12 rfl rfl rfl (L_pick rfl rfl) ?_
   refine T_done (by kernel_rfl) ?_
   refine E_cond rfl (fun hc32 => ?_) (fun hc32 => ?_)
   ·refine E_seq ?_
    refine E_region' (L := [0, 1, 2, 3, 4, 5, 6]) rfl ?_
    refine x_pure rfl rfl rfl (l_field rfl fo_29_2) ?_
    refine x_light rfl rfl rfl (L_load rfl (by first | exact d_bp ty_27 | exact ld_rp ty_27 rfl | exact d_ep ty_27)) ?_
    refine x_light rfl rfl rfl (L_load rfl (by first | exact d_bp ty_76 | exact ld_rp ty_76 rfl | exact d_ep ty_76)) ?_
    refine EOps_go rfl rfl (Heavy.op (H_bslice_ro rfl rfl (by decide) sl_27 ty_76 za_76 ⟨rfl, by decide⟩ (by decide) rfl rfl rfl rfl ?_))
    refine EOps_go rfl rfl (EOp_append (news := pairs [p]) rfl rfl (by decide) sl_27 ty_76 by_76 za_76 ⟨rfl, by decide⟩ rfl (by first | rfl | assumption) (by first | assumption | exact ints_len _ | exact pairs_len _ | exact quads_len _ | exact quints_len _ | exact bools_len _ | (simp [ints_len, bools_len, pairs_len, quads_len, quints_len, part_len, *]; done) | (simp [ints_len, bools_len, pairs_len, quads_len, quints_len]; omega) | rfl) (by first | (refine lend_whole rfl ?_; first | assumption | exact ints_len _ | exact pairs_len _ | exact quads_len _ | exact quints_len _ | exact bools_len _ | (simp [ints_len, bools_len, pairs_len, quads_len, quints_len, part_len, *]; done) | (simp [ints_len, bools_len, pairs_len, quads_len, quints_len]; omega) | rfl) | rfl | simp [E.lend, lendC]) (by first | exact ints_row _ | exact pairs_row _ | exact quads_row _ | exact quints_row _ | exact bools_row _ | (intro r hr; simp [chunk] at hr; subst hr; exact ⟨rfl, rfl⟩)) (by simp [ints_len, bools_len, pairs_len, quads_len, quints_len, chunk]; omega) ?_)
    refine x_pure rfl rfl rfl (l_field rfl fo_29_2) ?_
    refine EOps_go rfl rfl (EOp_store rfl rfl rfl (by first | exact s_bp ty_27 | exact s_ep ty_27) ?_)
    refine EOps_nil ?_
    refine E_region' (L := [0]) rfl ?_
    refine xas ?_
    refine EOps_nil ?_
    refine E_drawT mixed ?_
    refine t_old 0 rfl rfl rfl (l_field rfl fo_29_2) ?_
    refine t_light 1 rfl rfl rfl (L_load rfl (by first | exact d_bp ty_27 | exact ld_rp ty_27 rfl | exact d_ep ty_27)) ?_
    refine t_old 2 rfl rfl rfl (l_field rfl fo_29_2) ?_
    refine t_light 3 rfl rfl rfl (L_load rfl (by first | exact d_bp ty_27 | exact ld_rp ty_27 rfl | exact d_ep ty_27)) ?_
    refine t_old 4 rfl rfl rfl (L_move rfl) ?_
    refine t_old 5 rfl rfl rfl (L_index rfl rfl (by first | exact i_ro sl_27 ty_76 | exact i_sl sl_27 ty_76)) ?_
    refine t_light 6 rfl rfl rfl (L_load rfl (by first | exact d_bp ty_76 | exact ld_rp ty_76 rfl | exact d_ep ty_76)) ?_
    refine t_heavy 7 rfl rfl rfl (V_bslice_ro rfl sl_27 ty_76 za_76 ⟨rfl, by decide⟩ (by decide) rfl rfl rfl rfl ?_)
    refine t_turn 8 rfl rfl (EOp_append (news := pairs [x]) rfl rfl (by decide) sl_27 ty_76 by_76 za_76 ⟨rfl, by decide⟩ rfl (by first | rfl | assumption) (by first | assumption | exact ints_len _ | exact pairs_len _ | exact quads_len _ | exact quints_len _ | exact bools_len _ | (simp [ints_len, bools_len, pairs_len, quads_len, quints_len, part_len, *]; done) | (simp [ints_len, bools_len, pairs_len, quads_len, quints_len]; omega) | rfl) (by first | (refine lend_whole rfl ?_; first | assumption | exact ints_len _ | exact pairs_len _ | exact quads_len _ | exact quints_len _ | exact bools_len _ | (simp [ints_len, bools_len, pairs_len, quads_len, quints_len, part_len, *]; done) | (simp [ints_len, bools_len, pairs_len, quads_len, quints_len]; omega) | rfl) | rfl | simp [E.lend, lendC]) (by first | exact ints_row _ | exact pairs_row _ | exact quads_row _ | exact quints_row _ | exact bools_row _ | (intro r hr; simp [chunk] at hr; subst hr; exact ⟨rfl, rfl⟩)) (by simp [ints_len, bools_len, pairs_len, quads_len, quints_len, chunk]; omega) ?_)
    refine t_old 9 rfl rfl rfl (l_field rfl fo_29_2) ?_
    refine t_turn 10 rfl rfl (EOp_store rfl rfl rfl (by first | exact s_bp ty_27 | exact s_ep ty_27) ?_)
    refine T_done (by kernel_rfl) ?_
    refine E_region' (L := [0, 1, 2]) rfl ?_
    refine xmv ?_
    refine x_pure rfl rfl rfl (by first | exact l_add rfl rfl rfl | exact L_bin rfl rfl rfl rfl) ?_
    refine xas ?_
    refine EOps_nil ?_
    refine ⟨(k + 1, true, (acc ++ [p]) ++ [x]), ?_, ?_, by simp only [pairs_app, List.length_append, List.length_singleton]; rfl, ⟨.inr (int_eq (by first | rfl | omega | (dsimp only; done) | (dsimp only; omega) | (simp; done))), .inr ((by rfl)), trivial⟩, ⟨.inr rfl, .inr rfl, .inr rfl, .inr rfl, .inr rfl, .inr rfl, .inr rfl, trivial⟩⟩
    ·first | omega | (dsimp only; omega) | (simp; omega)
    ·exact ⟨by dsimp only; omega, by simp [Bool.toNat] at hal ⊢; omega, by first | exact insI_new hI hx (by simpa using hc32) | exact insI_on hI hx (by simpa using hc32) | exact insI_done hI hx⟩
   ·refine E_skip ?_
    refine E_drawT mixed ?_
    refine t_old 0 rfl rfl rfl (l_field rfl fo_29_2) ?_
    refine t_light 1 rfl rfl rfl (L_load rfl (by first | exact d_bp ty_27 | exact ld_rp ty_27 rfl | exact d_ep ty_27)) ?_
    refine t_old 2 rfl rfl rfl (l_field rfl fo_29_2) ?_
    refine t_light 3 rfl rfl rfl (L_load rfl (by first | exact d_bp ty_27 | exact ld_rp ty_27 rfl | exact d_ep ty_27)) ?_
    refine t_old 4 rfl rfl rfl (L_move rfl) ?_
    refine t_old 5 rfl rfl rfl (L_index rfl rfl (by first | exact i_ro sl_27 ty_76 | exact i_sl sl_27 ty_76)) ?_
    refine t_light 6 rfl rfl rfl (L_load rfl (by first | exact d_bp ty_76 | exact ld_rp ty_76 rfl | exact d_ep ty_76)) ?_
    refine t_heavy 7 rfl rfl rfl (V_bslice_ro rfl sl_27 ty_76 za_76 ⟨rfl, by decide⟩ (by decide) rfl rfl rfl rfl ?_)
    refine t_turn 8 rfl rfl (EOp_append (news := pairs [x]) rfl rfl (by decide) sl_27 ty_76 by_76 za_76 ⟨rfl, by decide⟩ rfl (by first | rfl | assumption) (by first | assumption | exact ints_len _ | exact pairs_len _ | exact quads_len _ | exact quints_len _ | exact bools_len _ | (simp [ints_len, bools_len, pairs_len, quads_len, quints_len, part_len, *]; done) | (simp [ints_len, bools_len, pairs_len, quads_len, quints_len]; omega) | rfl) (by first | (refine lend_whole rfl ?_; first | assumption | exact ints_len _ | exact pairs_len _ | exact quads_len _ | exact quints_len _ | exact bools_len _ | (simp [ints_len, bools_len, pairs_len, quads_len, quints_len, part_len, *]; done) | (simp [ints_len, bools_len, pairs_len, quads_len, quints_len]; omega) | rfl) | rfl | simp [E.lend, lendC]) (by first | exact ints_row _ | exact pairs_row _ | exact quads_row _ | exact quints_row _ | exact bools_row _ | (intro r hr; simp [chunk] at hr; subst hr; exact ⟨rfl, rfl⟩)) (by simp [ints_len, bools_len, pairs_len, quads_len, quints_len, chunk]; omega) ?_)
    refine t_old 9 rfl rfl rfl (l_field rfl fo_29_2) ?_
    refine t_turn 10 rfl rfl (EOp_store rfl rfl rfl (by first | exact s_bp ty_27 | exact s_ep ty_27) ?_)
    refine T_done (by kernel_rfl) ?_
    refine E_region' (L := [0, 1, 2]) rfl ?_
    refine xmv ?_
    refine x_pure rfl rfl rfl (by first | exact l_add rfl rfl rfl | exact L_bin rfl rfl rfl rfl) ?_
    refine xas ?_
    refine EOps_nil ?_
    refine ⟨(k + 1, false, acc ++ [x]), ?_, ?_, by simp only [pairs_app, List.length_append, List.length_singleton]; rfl, ⟨.inr (int_eq (by first | rfl | omega | (dsimp only; done) | (dsimp only; omega) | (simp; done))), .inr ((by rfl)), trivial⟩, ⟨.inr rfl, .inr rfl, .inr rfl, .inr rfl, .inr rfl, .inr rfl, .inr rfl, trivial⟩⟩
    ·first | omega | (dsimp only; omega) | (simp; omega)
    ·exact ⟨by dsimp only; omega, by simp [Bool.toNat] at hal ⊢; omega, by first | exact insI_new hI hx (by simpa using hc32) | exact insI_on hI hx (by simpa using hc32) | exact insI_done hI hx⟩
  ·obtain rfl : d = true := by simpa using hg22
   refine t_skip 3 rfl rfl rfl ?_
   refine t_skip 4 rfl rfl rfl ?_
   refine t_skip 5 rfl rfl rfl ?_
   refine t_skip 6 rfl rfl rfl ?_
   refine t_skip 7 rfl rfl rfl ?_
   refine t_skip 8 rfl rfl rfl ?_
   refine t_skip 9 rfl rfl rfl ?_
   refine t_skip 10 rfl rfl rfl ?_
   refine t_skip 11 rfl rfl rfl ?_
   refine t_old 12 rfl rfl rfl (L_pick rfl rfl) ?_
   refine T_done (by kernel_rfl) ?_
   refine E_cond rfl (fun hc32 => ?_) (fun hc32 => ?_)
   ·exact Bool.noConfusion (hc32 : false = true)
   ·refine E_skip ?_
    refine E_drawT mixed ?_
    refine t_old 0 rfl rfl rfl (l_field rfl fo_29_2) ?_
    refine t_light 1 rfl rfl rfl (L_load rfl (by first | exact d_bp ty_27 | exact ld_rp ty_27 rfl | exact d_ep ty_27)) ?_
    refine t_old 2 rfl rfl rfl (l_field rfl fo_29_2) ?_
    refine t_light 3 rfl rfl rfl (L_load rfl (by first | exact d_bp ty_27 | exact ld_rp ty_27 rfl | exact d_ep ty_27)) ?_
    refine t_old 4 rfl rfl rfl (L_move rfl) ?_
    refine t_old 5 rfl rfl rfl (L_index rfl rfl (by first | exact i_ro sl_27 ty_76 | exact i_sl sl_27 ty_76)) ?_
    refine t_light 6 rfl rfl rfl (L_load rfl (by first | exact d_bp ty_76 | exact ld_rp ty_76 rfl | exact d_ep ty_76)) ?_
    refine t_heavy 7 rfl rfl rfl (V_bslice_ro rfl sl_27 ty_76 za_76 ⟨rfl, by decide⟩ (by decide) rfl rfl rfl rfl ?_)
    refine t_turn 8 rfl rfl (EOp_append (news := pairs [x]) rfl rfl (by decide) sl_27 ty_76 by_76 za_76 ⟨rfl, by decide⟩ rfl (by first | rfl | assumption) (by first | assumption | exact ints_len _ | exact pairs_len _ | exact quads_len _ | exact quints_len _ | exact bools_len _ | (simp [ints_len, bools_len, pairs_len, quads_len, quints_len, part_len, *]; done) | (simp [ints_len, bools_len, pairs_len, quads_len, quints_len]; omega) | rfl) (by first | (refine lend_whole rfl ?_; first | assumption | exact ints_len _ | exact pairs_len _ | exact quads_len _ | exact quints_len _ | exact bools_len _ | (simp [ints_len, bools_len, pairs_len, quads_len, quints_len, part_len, *]; done) | (simp [ints_len, bools_len, pairs_len, quads_len, quints_len]; omega) | rfl) | rfl | simp [E.lend, lendC]) (by first | exact ints_row _ | exact pairs_row _ | exact quads_row _ | exact quints_row _ | exact bools_row _ | (intro r hr; simp [chunk] at hr; subst hr; exact ⟨rfl, rfl⟩)) (by simp [ints_len, bools_len, pairs_len, quads_len, quints_len, chunk]; omega) ?_)
    refine t_old 9 rfl rfl rfl (l_field rfl fo_29_2) ?_
    refine t_turn 10 rfl rfl (EOp_store rfl rfl rfl (by first | exact s_bp ty_27 | exact s_ep ty_27) ?_)
    refine T_done (by kernel_rfl) ?_
    refine E_region' (L := [0, 1, 2]) rfl ?_
    refine xmv ?_
    refine x_pure rfl rfl rfl (by first | exact l_add rfl rfl rfl | exact L_bin rfl rfl rfl rfl) ?_
    refine xas ?_
    refine EOps_nil ?_
    refine ⟨(k + 1, true, acc ++ [x]), ?_, ?_, by simp only [pairs_app, List.length_append, List.length_singleton]; rfl, ⟨.inr (int_eq (by first | rfl | omega | (dsimp only; done) | (dsimp only; omega) | (simp; done))), .inr ((by rfl)), trivial⟩, ⟨.inr rfl, .inr rfl, .inr rfl, .inr rfl, .inr rfl, .inr rfl, .inr rfl, trivial⟩⟩
    ·first | omega | (dsimp only; omega) | (simp; omega)
    ·exact ⟨by dsimp only; omega, by simp [Bool.toNat] at hal ⊢; omega, by first | exact insI_new hI hx (by simpa using hc32) | exact insI_on hI hx (by simpa using hc32) | exact insI_done hI hx⟩
 ·have hkk : c.piv.length ≤ k := by simpa [pairs_len] using hc17
  refine E_exit ?_
  refine e_seqJ_A39_2 (α := Unit) [0, 1, 2, 3, 4, 5, 6, 7, 8, 17, 32] (fun _ => []) (fun _ => [.box (crkC c), .box [.sc (.int .i64 p.1), .sc (.int .i64 p.2)], .box [.sc (.slice none 0 0), .sc (.slice none 0 0), .sc (.slice none 0 0)], .row 3 1 (ints c.vals), .row 3 1 (ints c.rows), .row 76 2 (pairs c.piv), .box [.sl 3 0 c.vals.length c.vals.length, .sl 4 0 c.rows.length c.rows.length, .sl 7 0 (insPv c.piv p).length (insPv c.piv p).length], .row 76 2 (pairs (insPv c.piv p))]) (fun _ => True) ?_ ?_
  ·refine E_seq ?_
   refine E_region' (L := [0, 1]) rfl ?_
   refine xmv ?_
   refine x_pure rfl rfl rfl (L_not rfl rfl) ?_
   refine EOps_nil ?_
   refine E_cond rfl (fun hc50 => ?_) (fun hc50 => ?_)
   ·obtain rfl : d = false := by simpa using hc50
    have hfin : acc ++ [p] = insPv c.piv p := by
     simp only [insI, Bool.false_eq_true, if_false, List.take_of_length_le hkk] at hI
     rw [hI.1]; exact insPv_end hI.2
    refine E_region' (L := [0, 1, 2, 3, 4, 5, 6]) rfl ?_
    refine x_pure rfl rfl rfl (l_field rfl fo_29_2) ?_
    refine x_light rfl rfl rfl (L_load rfl (by first | exact d_bp ty_27 | exact ld_rp ty_27 rfl | exact d_ep ty_27)) ?_
    refine x_light rfl rfl rfl (L_load rfl (by first | exact d_bp ty_76 | exact ld_rp ty_76 rfl | exact d_ep ty_76)) ?_
    refine EOps_go rfl rfl (Heavy.op (H_bslice_ro rfl rfl (by decide) sl_27 ty_76 za_76 ⟨rfl, by decide⟩ (by decide) rfl rfl rfl rfl ?_))
    refine EOps_go rfl rfl (EOp_append (news := pairs [p]) rfl rfl (by decide) sl_27 ty_76 by_76 za_76 ⟨rfl, by decide⟩ rfl (by first | rfl | assumption) (by first | assumption | exact ints_len _ | exact pairs_len _ | exact quads_len _ | exact quints_len _ | exact bools_len _ | (simp [ints_len, bools_len, pairs_len, quads_len, quints_len, part_len, *]; done) | (simp [ints_len, bools_len, pairs_len, quads_len, quints_len]; omega) | rfl) (by first | (refine lend_whole rfl ?_; first | assumption | exact ints_len _ | exact pairs_len _ | exact quads_len _ | exact quints_len _ | exact bools_len _ | (simp [ints_len, bools_len, pairs_len, quads_len, quints_len, part_len, *]; done) | (simp [ints_len, bools_len, pairs_len, quads_len, quints_len]; omega) | rfl) | rfl | simp [E.lend, lendC]) (by first | exact ints_row _ | exact pairs_row _ | exact quads_row _ | exact quints_row _ | exact bools_row _ | (intro r hr; simp [chunk] at hr; subst hr; exact ⟨rfl, rfl⟩)) (by simp [ints_len, bools_len, pairs_len, quads_len, quints_len, chunk]; omega) ?_)
    refine x_pure rfl rfl rfl (l_field rfl fo_29_2) ?_
    refine EOps_go rfl rfl (EOp_store rfl rfl rfl (by first | exact s_bp ty_27 | exact s_ep ty_27) ?_)
    refine EOps_nil ?_
    skip
    refine ⟨(), ?_, by rw [← hfin] <;> first | rfl | (simp only [pairs_app, List.length_append, List.length_singleton, List.length_nil]; rfl), trivial, ⟨.inr rfl, .inr rfl, .inr rfl, .inr rfl, .inr rfl, .inr rfl, .inr rfl, .inr rfl, .inr rfl, .inr rfl, .inr rfl, trivial⟩⟩
    trivial
   ·obtain rfl : d = true := by simpa using hc50
    have hfin : acc = insPv c.piv p := by
     simpa [insI, List.drop_of_length_le hkk] using hI
    refine E_skip ?_
    skip
    refine ⟨(), ?_, by rw [← hfin] <;> first | rfl | (simp only [pairs_app, List.length_append, List.length_singleton, List.length_nil]; rfl), trivial, ⟨.inr rfl, .inr rfl, .inr rfl, .inr rfl, .inr rfl, .inr rfl, .inr rfl, .inr rfl, .inr rfl, .inr rfl, .inr rfl, trivial⟩⟩
    trivial
  rintro _ hI
  refine E_seq ?_
  refine E_seq ?_
  refine e_tidy_A39_0 [0, 1, 2, 3, 4, 5, 6, 7, 8, 17, 32, 50] ?_
  refine E_region' (L := [0, 1, 2, 3, 4, 5, 6, 7]) rfl ?_
  refine x_light rfl rfl rfl (L_load rfl (by first | exact d_bp ty_29 | exact ld_rp ty_29 rfl | exact d_ep ty_29)) ?_
  refine x_call rfl rfl rfl rfl rfl ca_36 (c_spec_IsCracker c) ?_
  rintro r S ⟨rfl, rfl⟩
  refine x_pure rfl rfl rfl (L_not rfl rfl) ?_
  refine xmv ?_
  refine EOps_split 60 (b := _) rfl (fun hg60 => ?_) (fun hg60 => ?_)
  ·simp [hc] at hg60
  ·refine x_light rfl rfl rfl (L_load rfl (by first | exact d_bp ty_29 | exact ld_rp ty_29 rfl | exact d_ep ty_29)) ?_
   refine x_call rfl rfl rfl rfl rfl ca_36 (c_spec_IsCracker (withPv c p)) ?_
   rintro r S ⟨rfl, rfl⟩
   refine x_pure rfl rfl rfl (L_not rfl rfl) ?_
   refine x_pure rfl rfl rfl (L_pick rfl rfl) ?_
   refine EOps_nil ?_
   refine E_cond rfl (fun hc64 => ?_) (fun hc64 => ?_)
   ·simp [hcp] at hc64
   ·refine E_skip ?_
    refine E_seq ?_
    refine E_region' (L := [0, 1, 2]) rfl ?_
    refine x_light rfl rfl rfl (L_load rfl (by first | exact d_bp ty_29 | exact ld_rp ty_29 rfl | exact d_ep ty_29)) ?_
    refine EOps_go rfl rfl (EOp_store rfl rfl rfl (by first | exact s_bp ty_29 | exact s_ep ty_29) ?_)
    refine xas ?_
    refine EOps_nil ?_
    refine E_ret ?_
    refine ⟨_, [3, 4, 7], rfl, rfl, ?_, ?_⟩
    ·rfl
    ·rfl

end Go.Proofs.YthnadkagchbhbaaGreat.E
