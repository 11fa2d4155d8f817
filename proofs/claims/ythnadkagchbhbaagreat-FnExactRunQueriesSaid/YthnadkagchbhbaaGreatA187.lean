/- Walks through functions, by program out of the session's annotations. -/
import Derived.Test.YthnadkagchbhbaaGreatA182
import Derived.Test.YthnadkagchbhbaaGreatA183
import Derived.Test.YthnadkagchbhbaaGreatA45
import Derived.Test.YthnadkagchbhbaaGreatF4
namespace Go.Proofs.YthnadkagchbhbaaGreat.E
open Go Go.RowKit Go.Proofs
set_option linter.unusedVariables false
set_option linter.unusedSimpArgs false

def nest (ls : List (List Int)) : List (List T) := ls.map fun l => [.sl (ints l)]
theorem nest_len (ls : List (List Int)) : (nest ls).length = ls.length := by simp [nest]
theorem nest_at (ls : List (List Int)) (v : Value) : (nest ls ++ vrow [v])[ls.length]? = some [.sc v] := by
 rw [List.getElem?_append_right (by rw [nest_len]; exact Nat.le_refl _), nest_len, Nat.sub_self]; rfl
theorem nest_push (ls : List (List Int)) (v : Value) (a : List Int) : (nest ls ++ vrow [v]).set ls.length [.sl (ints a)] = nest (ls ++ [a]) := by
 rw [List.set_append_right _ _ (by rw [nest_len]; exact Nat.le_refl _), nest_len, Nat.sub_self, nest, nest, List.map_append]; rfl
/-- Column, settings, answers and costs after the first k queries. -/
def rqN (xs : List Int) (s : Sett) (rs : List (Int × Int)) : Nat → Crk × Sett × List (List Int) × List Int
 | 0 => (newCrk xs, s, [], [])
 | k + 1 => ((sw2 (rqN xs s rs k).1 (rqN xs s rs k).2.1 (rs.getD k (0, 0))).1, (sw2 (rqN xs s rs k).1 (rqN xs s rs k).2.1 (rs.getD k (0, 0))).2.1,
   (rqN xs s rs k).2.2.1 ++ [swR (sw2 (rqN xs s rs k).1 (rqN xs s rs k).2.1 (rs.getD k (0, 0))).1 (rs.getD k (0, 0))],
   (rqN xs s rs k).2.2.2 ++ [totW (sw1 (rqN xs s rs k).1 (rqN xs s rs k).2.1 (rs.getD k (0, 0))).2.2 + totW (sw2 (rqN xs s rs k).1 (rqN xs s rs k).2.1 (rs.getD k (0, 0))).2.2])
theorem rq_next {xs : List Int} {s : Sett} {rs : List (Int × Int)} {k : Nat} {c : Crk} {t : Sett} {ls : List (List Int)} {cs : List Int} {r : Int × Int} (hrk : rs[k]? = some r) (h : rqN xs s rs k = (c, t, ls, cs)) :
  rqN xs s rs (k + 1) = ((sw2 c t r).1, (sw2 c t r).2.1, ls ++ [swR (sw2 c t r).1 r], cs ++ [totW (sw1 c t r).2.2 + totW (sw2 c t r).2.2]) := by
 have hgd : rs.getD k (0, 0) = r := by rw [List.getD_eq_getElem?_getD, hrk]; rfl
 rw [rqN, h, hgd]
structure RqOk (c : Crk) (t : Sett) (ls : List (List Int)) (cs : List Int) (k : Nat) : Prop where
 oc : isCrk c = true
 os : isSet t = true
 ll : ls.length = k
 lc : cs.length = k
theorem rq_ok {xs : List Int} {s : Sett} {rs : List (Int × Int)} (hx : areVals xs = true) (hs : isSet s = true) (hr : ∀ r ∈ rs, isRng r = true) : ∀ (k : Nat), k ≤ rs.length → ∀ {c t ls cs}, rqN xs s rs k = (c, t, ls, cs) → RqOk c t ls cs k
 | 0, _, c, t, ls, cs, h => by
  have h1 : (newCrk xs, s, ([] : List (List Int)), ([] : List Int)) = (c, t, ls, cs) := h
  cases h1
  exact ⟨newCrk_ok hx, hs, rfl, rfl⟩
 | k + 1, hk, c, t, ls, cs, h => by
  obtain ⟨r, hrk⟩ := at_lt (l := rs) (k := k) (by omega)
  generalize hN : rqN xs s rs k = P at *
  obtain ⟨c1, t1, ls1, cs1⟩ := P
  have h1 := rq_ok hx hs hr k (by omega) hN
  have h2 := rq_next hrk hN
  rw [h] at h2
  have hw := sw_ok h1.oc h1.os (hr r (List.mem_of_getElem? hrk))
  cases h2
  exact ⟨hw.c2, hw.s2, by simp [h1.ll], by simp [h1.lc]⟩
def rqC (xs : List Int) (s : Sett) (rs : List (Int × Int)) : Crk := if areQ xs s rs = true then (rqN xs s rs rs.length).1 else ⟨[], [], []⟩
def rqL (xs : List Int) (s : Sett) (rs : List (Int × Int)) : List (List Int) := if areQ xs s rs = true then (rqN xs s rs rs.length).2.2.1 else []
def rqK (xs : List Int) (s : Sett) (rs : List (Int × Int)) : List Int := if areQ xs s rs = true then (rqN xs s rs rs.length).2.2.2 else []

theorem g_tidy_A187_0 {P : Program} {N n : Nat} {s : Slots} {R : List Res} {Q : Exit → Slots → List Res → Prop} {c : Code} (keep : List Nat) {base : Slots} {R' : List Res} (h : GCode P N n c base R' Q) (hb : keepOf s keep = base := by simp only [E.keepOf, E.get, E.ev, E.cv, E.fill', E.fill, E.slotsOf, Res.sh, AC.sh, AC.sh.shs, AV.sh, E.splice, List.map_cons, List.map_nil, List.cons_append, List.nil_append, List.append_nil, List.length_cons, List.length_nil, List.take_zero, List.drop_zero, List.take_succ_cons, List.drop_succ_cons, List.drop_nil, List.take_nil, List.set_cons_zero, List.set_cons_succ, Nat.zero_add, Nat.add_zero, Nat.reduceAdd, Nat.reduceSub, reduceIte, Nat.reduceEqDiff, E.back, E.backR, E.ix, Res.un, AC.un, AC.un.uns, AV.un, E.un, Option.map_some, Option.map_none, Option.getD_some, List.getElem?_cons_zero, List.getElem?_cons_succ, List.getElem?_nil, crkR, crkO]; rfl) (hR : R = R' := by (try simp only [E.keepOf, E.get, E.ev, E.cv, E.fill', E.fill, E.slotsOf, Res.sh, AC.sh, AC.sh.shs, AV.sh, E.splice, List.map_cons, List.map_nil, List.cons_append, List.nil_append, List.append_nil, List.length_cons, List.length_nil, List.take_zero, List.drop_zero, List.take_succ_cons, List.drop_succ_cons, List.drop_nil, List.take_nil, List.set_cons_zero, List.set_cons_succ, Nat.zero_add, Nat.add_zero, Nat.reduceAdd, Nat.reduceSub, reduceIte, Nat.reduceEqDiff, E.back, E.backR, E.ix, Res.un, AC.un, AC.un.uns, AV.un, E.un, Option.map_some, Option.map_none, Option.getD_some, List.getElem?_cons_zero, List.getElem?_cons_succ, List.getElem?_nil, crkR, crkO]); rfl) : GCode P N n c s R Q := G_tidy keep hb hR h
theorem g_forD_A187_1 {P : Program} {N n : Nat} {s : Slots} {R : List Res} {Q : Exit → Slots → List Res → Prop} {α : Type} {c : Code} (keep : List Nat) (mods : α → Slots) (Rf : α → List Res) (I : α → Prop) (m : α → Nat) (x0 : α) {base : Slots} (h0 : I x0) (hR : R = Rf x0) (h1 : chk s (mods x0))
  (round : ∀ x, I x → GCode P N n c (mods x ++ base) (Rf x) (EThen (fun s' R' => ∃ σ, okσ n R' σ = true ∧ ∃ y, m y < m x ∧ I y ∧ reR n σ R' = Rf y ∧ chk (renS n σ s') (mods y) ∧ chk (renS n σ s') base) Q)) (hb : keepOf s keep = base := by simp only [E.keepOf, E.get, E.ev, E.cv, E.fill', E.fill, E.slotsOf, Res.sh, AC.sh, AC.sh.shs, AV.sh, E.splice, List.map_cons, List.map_nil, List.cons_append, List.nil_append, List.append_nil, List.length_cons, List.length_nil, List.take_zero, List.drop_zero, List.take_succ_cons, List.drop_succ_cons, List.drop_nil, List.take_nil, List.set_cons_zero, List.set_cons_succ, Nat.zero_add, Nat.add_zero, Nat.reduceAdd, Nat.reduceSub, reduceIte, Nat.reduceEqDiff, E.back, E.backR, E.ix, Res.un, AC.un, AC.un.uns, AV.un, E.un, Option.map_some, Option.map_none, Option.getD_some, List.getElem?_cons_zero, List.getElem?_cons_succ, List.getElem?_nil, crkR, crkO]; rfl) : GCode P N n (.loop c) s R Q := G_forD keep mods Rf I m x0 hb h0 hR h1 round

set_option maxRecDepth 20000 in
set_option maxHeartbeats 8000000 in
theorem c_impl_queriesA (xs : List Int) (s : Sett) (rs : List (Int × Int)) (hx : areVals xs = true) (hs : isSet s = true) (hl : rs.length ≤ 30) (hr : ∀ r ∈ rs, isRng r = true) : EFn Tryz.prog 28 [.c (.ro (ints xs)), .agg (setC s), .c (.ro (pairs rs)), .c (.fn 29 [])] [] (fun y S => y = .tup [(true, crkO 0 (rqN xs s rs rs.length).1), (false, [.sl 3 0 (rqN xs s rs rs.length).2.2.1.length (rqN xs s rs rs.length).2.2.1.length]), (false, [.sl 4 0 (rqN xs s rs rs.length).2.2.2.length (rqN xs s rs rs.length).2.2.2.length])] ∧ S = crkR 3 76 (rqN xs s rs rs.length).1 ++ [.row 22 1 (nest (rqN xs s rs rs.length).2.2.1), .row 3 1 (ints (rqN xs s rs rs.length).2.2.2)]) := by
 refine E_fn Tryz.func28 rfl (Nat.le_of_ble_eq_true rfl) ?_
 refine E_G (n := 0) rfl ?_
 have hxl := areVals_parts hx
 have hc0 := crk_lens (newCrk_ok hx)
 refine G_seq ?_
 refine G_region' (L := [0, 1, 2, 3, 4]) rfl ?_
 refine x_box rfl rfl rfl rfl rfl ?_
 refine x_box rfl rfl rfl rfl rfl ?_
 refine x_alloc rfl rfl rfl rfl za_29 ?_
 refine xas ?_
 refine xas ?_
 refine EOps_nil ?_
 refine G_seq ?_
 refine g_tidy_A187_0 [0, 1, 2, 3, 5, 7, 8, 9, 10] ?_
 refine G_region' (L := [0, 1, 2, 3, 4, 5, 6, 7]) rfl ?_
 refine xmv ?_
 refine x_call rfl rfl rfl rfl rfl ca_44 (c_impl_NewCracker xs (by omega)) ?_
 rintro r S ⟨rfl, rfl⟩
 refine EOps_go rfl rfl (Heavy.op (H_bslice rfl rfl (by decide) sl_30 ty_22 za_22 ⟨rfl, by decide⟩ (by decide) rfl rfl rfl rfl ?_))
 refine EOps_go rfl rfl (Heavy.op (H_bslice rfl rfl (by decide) sl_22 ty_3 za_3 ⟨rfl, by decide⟩ (by decide) rfl rfl rfl rfl ?_))
 refine x_alloc rfl rfl rfl rfl za_29 ?_
 refine EOps_go rfl rfl (EOp_store rfl rfl rfl (by first | exact s_bp ty_29 | exact s_ep ty_29) ?_)
 refine xas ?_
 refine xas ?_
 refine EOps_nil ?_
 refine G_seq ?_
 refine G_seq ?_
 refine G_region' (L := [0, 1, 2]) rfl ?_
 refine xmv ?_
 refine x_pure rfl rfl rfl (l_len rfl sl_36) ?_
 refine xmv ?_
 refine EOps_nil ?_
 refine G_block ?_
 refine G_drop [0, 1, 2, 3, 5, 7, 8, 9, 10, 11, 12, 13, 22, 23, 24] [0, 1, 2, 8, 6, 7, 3, 4, 5] rfl rfl rfl ?_
 refine g_forD_A187_1 (α := Nat × Crk × Sett × List (List Int) × List Int) [0, 1, 2, 3, 5, 7, 8, 9, 10, 11, 22, 23] (fun (k, cur, st, ls, cs) => [(24, .c (.sc (.int .i64 (k)))), (12, .c (.sl 4 0 ls.length ls.length)), (13, .c (.sl 5 0 cs.length cs.length))]) (fun (k, cur, st, ls, cs) => [.box (setC st), .box [.fn 29 []], .box [.sc (.slice none 0 0), .sc (.slice none 0 0), .sc (.slice none 0 0)], .box (crkO 6 cur), .row 22 1 (nest ls), .row 3 1 (ints cs), .row 3 1 (ints cur.vals), .row 3 1 (ints cur.rows), .row 76 2 (pairs cur.piv)]) (fun (k, cur, st, ls, cs) => k ≤ rs.length ∧ rqN xs s rs k = (cur, st, ls, cs)) (fun (k, cur, st, ls, cs) => rs.length - k) ((0, newCrk xs, s, [], [])) ?_ (rfl) ⟨.inr rfl, .inr rfl, .inr rfl, trivial⟩ ?_
 ·exact ⟨Nat.zero_le _, rfl⟩
 rintro ⟨k, cur, st, ls, cs⟩ ⟨hk, hst⟩
 dsimp only at *
 refine G_seq ?_
 refine G_region' (L := [0]) rfl ?_
 refine x_pure rfl rfl rfl (L_bin rfl rfl rfl rfl) ?_
 refine EOps_nil ?_
 refine G_seq ?_
 refine G_cond rfl (fun hc25 => ?_) (fun hc25 => ?_)
 ·have hc25' : k < (rs).length := by simpa [ints_len, bools_len, pairs_len, quads_len, quints_len] using hc25
  obtain ⟨r, hrk⟩ : ∃ x, (rs)[k]? = some x := ⟨_, List.getElem?_eq_getElem hc25'⟩
  have hok := rq_ok hx hs hr k hk hst
  have okc := hok.oc
  have oks := hok.os
  have okl := hok.ll
  have okk := hok.lc
  have hnx := rq_next hrk hst
  have hrr := hr r (List.mem_of_getElem? hrk)
  have hvv := nest_len ls
  refine G_skip ?_
  refine G_seq ?_
  refine G_block ?_
  refine G_seq ?_
  refine G_region' (L := [0, 1, 2, 3, 4, 5, 6]) rfl ?_
  refine xmv ?_
  refine x_pure rfl rfl rfl (L_index rfl rfl (by first | exact i_ro sl_36 ty_54 | exact i_sl sl_36 ty_54)) ?_
  refine x_light rfl rfl rfl (L_load rfl (by first | exact d_bp ty_54 | exact ld_rp ty_54 rfl | exact d_ep ty_54)) ?_
  refine x_alloc rfl rfl rfl rfl za_3 ?_
  refine x_alloc rfl rfl rfl rfl za_54 ?_
  refine EOps_go rfl rfl (EOp_store rfl rfl rfl (by first | exact s_bp ty_3 | exact s_ep ty_3) ?_)
  refine EOps_go rfl rfl (EOp_store rfl rfl rfl (by first | exact s_bp ty_54 | exact s_ep ty_54) ?_)
  refine EOps_nil ?_
  refine G_seq ?_
  refine G_region' (L := [0]) rfl ?_
  refine xas ?_
  refine EOps_nil ?_
  refine G_seq ?_
  refine G_region' (L := [0]) rfl ?_
  refine xas ?_
  refine EOps_nil ?_
  refine G_seq ?_
  refine g_tidy_A187_0 [0, 1, 2, 3, 5, 7, 8, 9, 10, 11, 12, 13, 14, 15, 16, 17, 22, 23, 24, 25] ?_
  refine G_region' (L := [0, 1, 2, 3, 4, 5, 6, 7, 8, 9, 10, 11, 12, 13]) rfl ?_
  refine x_light rfl rfl rfl (L_load rfl (by first | exact d_bp ty_29 | exact ld_rp ty_29 rfl | exact d_ep ty_29)) ?_
  refine x_light rfl rfl rfl (L_load rfl (by first | exact d_bp ty_34 | exact ld_rp ty_34 rfl | exact d_ep ty_34)) ?_
  refine x_light rfl rfl rfl (L_load rfl (by first | exact d_bp ty_54 | exact ld_rp ty_54 rfl | exact d_ep ty_54)) ?_
  refine x_pure rfl rfl rfl (L_func rfl rfl) ?_
  refine x_frame [6, 7, 8, 1, 9] rfl rfl rfl rfl rfl ca_45 rfl (c_impl_selectingA (k : Nat) cur st r okc oks hrr) ?_
  rintro r S ⟨r0, S0, ⟨rfl, rfl⟩, rfl, rfl⟩
  generalize totW (sw1 cur st r).2.2 + totW (sw2 cur st r).2.2 = nn at *
  generalize swR (sw2 cur st r).1 r = aa at *
  generalize sw2 cur st r = P at *
  obtain ⟨c2, st2, l2⟩ := P
  dsimp only at *
  refine xmv ?_
  refine x_pure rfl rfl rfl (L_extract rfl rfl) ?_
  refine x_pure rfl rfl rfl (L_extract rfl rfl) ?_
  refine x_pure rfl rfl rfl (L_extract rfl rfl) ?_
  refine x_pure rfl rfl rfl (L_extract rfl rfl) ?_
  refine EOps_go rfl rfl (EOp_store rfl rfl rfl (by first | exact s_bp ty_29 | exact s_ep ty_29) ?_)
  refine EOps_go rfl rfl (EOp_store rfl rfl rfl (by first | exact s_bp ty_34 | exact s_ep ty_34) ?_)
  refine xas ?_
  refine xas ?_
  refine EOps_nil ?_
  refine (X_pin 16 rfl).G fun v => ?_
  refine G_region' (L := [0, 1, 2, 3, 4, 5, 6, 7, 8, 9]) rfl ?_
  refine xmv ?_
  refine xmv ?_
  refine EOps_go rfl rfl (Heavy.op (H_bslice_ro rfl rfl (by decide) sl_30 ty_22 za_22 ⟨rfl, by decide⟩ (by decide) rfl rfl rfl rfl ?_))
  refine EOps_go rfl rfl (EOp_append (news := (vrow [v])) rfl rfl (by decide) sl_30 ty_22 by_22 za_22 ⟨rfl, by decide⟩ rfl (by first | rfl | assumption) (by first | assumption | exact ints_len _ | exact pairs_len _ | exact quads_len _ | exact quints_len _ | exact bools_len _ | (simp [ints_len, bools_len, pairs_len, quads_len, quints_len, part_len, *]; done) | (simp [ints_len, bools_len, pairs_len, quads_len, quints_len]; omega) | rfl) (by first | (refine lend_whole rfl ?_; first | assumption | exact ints_len _ | exact pairs_len _ | exact quads_len _ | exact quints_len _ | exact bools_len _ | (simp [ints_len, bools_len, pairs_len, quads_len, quints_len, part_len, *]; done) | (simp [ints_len, bools_len, pairs_len, quads_len, quints_len]; omega) | rfl) | rfl | simp [E.lend, lendC]) (by exact vrow_row _) (by simp [vrow_len]; omega) ?_)
  refine xmv ?_
  refine xmv ?_
  refine EOps_go rfl rfl (Heavy.op (H_bslice_ro rfl rfl (by decide) sl_22 ty_3 za_3 ⟨rfl, by decide⟩ (by decide) rfl rfl rfl rfl ?_))
  refine EOps_go rfl rfl (EOp_append (news := (ints [nn])) rfl rfl (by decide) sl_22 ty_3 by_3 za_3 ⟨rfl, by decide⟩ rfl (by first | rfl | assumption) (by first | assumption | exact ints_len _ | exact pairs_len _ | exact quads_len _ | exact quints_len _ | exact bools_len _ | (simp [ints_len, bools_len, pairs_len, quads_len, quints_len, part_len, *]; done) | (simp [ints_len, bools_len, pairs_len, quads_len, quints_len]; omega) | rfl) (by first | (refine lend_whole rfl ?_; first | assumption | exact ints_len _ | exact pairs_len _ | exact quads_len _ | exact quints_len _ | exact bools_len _ | (simp [ints_len, bools_len, pairs_len, quads_len, quints_len, part_len, *]; done) | (simp [ints_len, bools_len, pairs_len, quads_len, quints_len]; omega) | rfl) | rfl | simp [E.lend, lendC]) (by first | exact ints_row _ | exact pairs_row _ | exact quads_row _ | exact quints_row _ | exact bools_row _ | (intro r hr; simp [chunk] at hr; subst hr; exact ⟨rfl, rfl⟩)) (by simp [ints_len, bools_len, pairs_len, quads_len, quints_len, chunk]; omega) ?_)
  refine xas ?_
  refine xas ?_
  refine EOps_nil ?_
  refine (X_absorb 4 ls.length 0 15 14 rfl (nest_at ls v) rfl rfl rfl (ints_len _) (by decide) rfl).G fun _ => ?_
  refine G_region' (L := [0, 1]) rfl ?_
  refine x_pure rfl rfl rfl (by first | exact l_add rfl rfl rfl | exact L_bin rfl rfl rfl rfl) ?_
  refine xmv ?_
  refine EOps_nil ?_
  refine ⟨[0, 1, 2, 3, 4, 5, 11, 12, 13], rfl, (k + 1, c2, st2, ls ++ [aa], cs ++ [nn]), ?_, ?_, by rw [← nest_push ls v aa, ← ints_app]; rfl, ⟨.inr rfl, .inr ((by rw [show (ls ++ [aa]).length = ls.length + (vrow [v]).length by simp [vrow_len]] <;> rfl)), .inr ((by rw [show (cs ++ [nn]).length = cs.length + (ints [nn]).length by simp [ints_len]] <;> rfl)), trivial⟩, ⟨.inr rfl, .inr rfl, .inr rfl, .inr rfl, .inr rfl, .inr rfl, .inr rfl, .inr rfl, .inr rfl, .inr rfl, .inr rfl, .inr rfl, trivial⟩⟩
  ·first | omega | (dsimp only; omega) | (simp; omega)
  ·exact ⟨by omega, hnx⟩
 ·have hk' : rs.length ≤ k := by simpa [pairs_len] using hc25
  obtain rfl : k = rs.length := by omega
  refine G_exit ?_
  refine G_seq ?_
  refine G_region' (L := [0, 1, 2, 3, 4, 5]) rfl ?_
  refine x_light rfl rfl rfl (L_load rfl (by first | exact d_bp ty_29 | exact ld_rp ty_29 rfl | exact d_ep ty_29)) ?_
  refine xmv ?_
  refine xmv ?_
  refine EOps_go rfl rfl (EOp_store rfl rfl rfl (by first | exact s_bp ty_29 | exact s_ep ty_29) ?_)
  refine xas ?_
  refine xas ?_
  refine EOps_nil ?_
  refine G_ret ?_
  rw [hst]
  exact ⟨_, [6, 7, 8, 4, 5], rfl, rfl, rfl, rfl⟩

set_option maxRecDepth 20000 in
set_option maxHeartbeats 8000000 in
theorem c_impl_RunQueries (xs : List Int) (s : Sett) (rs : List (Int × Int)) : EFn Tryz.prog 9 [.c (.ro (ints xs)), .agg (setC s), .c (.ro (pairs rs))] [] (fun y S => y = .tup [(true, crkO 0 (rqC xs s rs)), (false, [.sl 3 0 (rqL xs s rs).length (rqL xs s rs).length]), (false, [.sl 4 0 (rqK xs s rs).length (rqK xs s rs).length])] ∧ S = crkR 3 76 (rqC xs s rs) ++ [.row 22 1 (nest (rqL xs s rs)), .row 3 1 (ints (rqK xs s rs))]) := by
 refine E_fn Tryz.func9 rfl (Nat.le_of_ble_eq_true rfl) ?_
 refine E_G (n := 0) rfl ?_
 refine G_seq ?_
 refine G_region' (L := [0, 1, 2, 3]) rfl ?_
 refine x_box rfl rfl rfl rfl rfl ?_
 refine x_alloc rfl rfl rfl rfl za_29 ?_
 refine xas ?_
 refine xas ?_
 refine EOps_nil ?_
 refine G_seq ?_
 refine G_seq ?_
 refine g_tidy_A187_0 [0, 1, 2, 4, 6, 7, 8] ?_
 refine G_region' (L := [0, 1, 2, 3, 4]) rfl ?_
 refine xmv ?_
 refine x_light rfl rfl rfl (L_load rfl (by first | exact d_bp ty_34 | exact ld_rp ty_34 rfl | exact d_ep ty_34)) ?_
 refine xmv ?_
 refine x_call rfl rfl rfl rfl rfl ca_27 (c_impl_areQueries xs s rs) ?_
 rintro r S ⟨rfl, rfl⟩
 refine x_pure rfl rfl rfl (L_not rfl rfl) ?_
 refine EOps_nil ?_
 refine G_cond rfl (fun hc13 => ?_) (fun hc13 => ?_)
 ·have h : areQ xs s rs = false := by simpa using hc13
  have hL : rqC xs s rs = ⟨[], [], []⟩ ∧ rqL xs s rs = [] ∧ rqK xs s rs = [] := by simp [rqC, rqL, rqK, h]
  refine G_seq ?_
  refine G_region' (L := [0, 1, 2, 3]) rfl ?_
  refine x_pure rfl rfl rfl (L_build rfl bd_29 rfl rfl) ?_
  refine EOps_go rfl rfl (EOp_store rfl rfl rfl (by first | exact s_bp ty_29 | exact s_ep ty_29) ?_)
  refine xas ?_
  refine xas ?_
  refine EOps_nil ?_
  refine G_ghostB 1 0 3 1 rfl rfl (by decide) ?_
  refine G_ghostB 1 1 3 1 rfl rfl (by decide) ?_
  refine G_ghostB 1 2 76 2 rfl rfl (by decide) ?_
  refine G_ghostS 7 22 1 rfl (by decide) ?_
  refine G_ghostS 8 3 1 rfl (by decide) ?_
  refine G_ret ?_
  rw [hL.1, hL.2.1, hL.2.2]
  exact ⟨_, [2, 3, 4, 5, 6], rfl, rfl, rfl, rfl⟩
 ·have hq : areQ xs s rs = true := by simpa using hc13
  have hL : rqC xs s rs = (rqN xs s rs rs.length).1 ∧ rqL xs s rs = (rqN xs s rs rs.length).2.2.1 ∧ rqK xs s rs = (rqN xs s rs rs.length).2.2.2 := by simp [rqC, rqL, rqK, hq]
  have hq4 := areQ_parts hq
  refine G_skip ?_
  refine G_seq ?_
  refine g_tidy_A187_0 [0, 1, 2, 4, 6, 7, 8, 13] ?_
  refine G_region' (L := [0, 1, 2, 3, 4, 5, 6, 7, 8, 9]) rfl ?_
  refine xmv ?_
  refine x_light rfl rfl rfl (L_load rfl (by first | exact d_bp ty_34 | exact ld_rp ty_34 rfl | exact d_ep ty_34)) ?_
  refine xmv ?_
  refine x_call rfl rfl rfl rfl rfl ca_28 (c_impl_queriesA xs s rs hq4.1 hq4.2.1 hq4.2.2.1 hq4.2.2.2) ?_
  rintro r S ⟨rfl, rfl⟩
  refine x_pure rfl rfl rfl (L_extract rfl rfl) ?_
  refine x_pure rfl rfl rfl (L_extract rfl rfl) ?_
  refine x_pure rfl rfl rfl (L_extract rfl rfl) ?_
  refine EOps_go rfl rfl (EOp_store rfl rfl rfl (by first | exact s_bp ty_29 | exact s_ep ty_29) ?_)
  refine xas ?_
  refine xas ?_
  refine EOps_nil ?_
  refine G_ret ?_
  rw [hL.1, hL.2.1, hL.2.2]
  exact ⟨_, [2, 3, 4, 5, 6], rfl, rfl, rfl, rfl⟩

set_option maxRecDepth 20000 in
set_option maxHeartbeats 8000000 in
theorem c_spec_RunQueries (xs : List Int) (s : Sett) (rs : List (Int × Int)) (hxb : xs.length ≤ 1048576) : EFn Tryz.prog 5 [.c (.ro (ints xs)), .agg (setC s), .c (.ro (pairs rs))] [] (fun y S => y = .tup [(true, crkO 0 (rqC xs s rs)), (false, [.sl 3 0 (rqL xs s rs).length (rqL xs s rs).length]), (false, [.sl 4 0 (rqK xs s rs).length (rqK xs s rs).length])] ∧ S = crkR 3 76 (rqC xs s rs) ++ [.row 22 1 (nest (rqL xs s rs)), .row 3 1 (ints (rqK xs s rs))]) := by
 refine E_fn Tryz.func5 rfl (Nat.le_of_ble_eq_true rfl) ?_
 refine E_G (n := 0) rfl ?_
 refine G_seq ?_
 refine G_region' (L := [0, 1, 2, 3]) rfl ?_
 refine x_box rfl rfl rfl rfl rfl ?_
 refine x_alloc rfl rfl rfl rfl za_29 ?_
 refine xas ?_
 refine xas ?_
 refine EOps_nil ?_
 refine G_seq ?_
 refine g_tidy_A187_0 [0, 1, 2, 4, 6, 7, 8] ?_
 refine G_region' (L := [0, 1, 2, 3]) rfl ?_
 refine xmv ?_
 refine x_call rfl rfl rfl rfl rfl ca_21 (c_spec_NewCracker xs (by omega)) ?_
 rintro r S ⟨rfl, rfl⟩
 refine x_alloc rfl rfl rfl rfl za_29 ?_
 refine EOps_go rfl rfl (EOp_store rfl rfl rfl (by first | exact s_bp ty_29 | exact s_ep ty_29) ?_)
 refine EOps_nil ?_
 refine G_seq ?_
 refine G_region' (L := [0, 1]) rfl ?_
 refine EOps_go rfl rfl (Heavy.op (H_bslice rfl rfl (by decide) sl_30 ty_22 za_22 ⟨rfl, by decide⟩ (by decide) rfl rfl rfl rfl ?_))
 refine xas ?_
 refine EOps_nil ?_
 refine G_seq ?_
 refine G_region' (L := [0, 1]) rfl ?_
 refine EOps_go rfl rfl (Heavy.op (H_bslice rfl rfl (by decide) sl_22 ty_3 za_3 ⟨rfl, by decide⟩ (by decide) rfl rfl rfl rfl ?_))
 refine xas ?_
 refine EOps_nil ?_
 refine G_seq ?_
 refine G_seq ?_
 refine g_tidy_A187_0 [0, 1, 2, 4, 6, 7, 8, 9, 10, 11] ?_
 refine G_region' (L := [0, 1, 2, 3, 4, 5, 6, 7, 8, 9, 10, 11, 12]) rfl ?_
 refine xmv ?_
 refine x_call rfl rfl rfl rfl rfl ca_22 (c_spec_AreValues xs) ?_
 rintro r S ⟨rfl, rfl⟩
 refine x_pure rfl rfl rfl (L_not rfl rfl) ?_
 refine xmv ?_
 refine EOps_split 25 (b := _) rfl (fun hg25 => ?_) (fun hg25 => ?_)
 ·refine x_skip rfl rfl rfl ?_
  refine x_skip rfl rfl rfl ?_
  refine x_skip rfl rfl rfl ?_
  refine x_pure rfl rfl rfl (L_pick rfl rfl) ?_
  refine xmv ?_
  refine x_skip rfl rfl rfl ?_
  refine x_skip rfl rfl rfl ?_
  refine x_skip rfl rfl rfl ?_
  refine x_pure rfl rfl rfl (L_pick rfl rfl) ?_
  refine EOps_nil ?_
  refine G_cond rfl (fun hc34 => ?_) (fun hc34 => ?_)
  ·have h : areQ xs s rs = false := by simp only [areQ]; simp_all
   have hL : rqC xs s rs = ⟨[], [], []⟩ ∧ rqL xs s rs = [] ∧ rqK xs s rs = [] := by simp [rqC, rqL, rqK, h]
   refine G_seq ?_
   refine G_region' (L := [0, 1, 2, 3, 4, 5]) rfl ?_
   refine x_pure rfl rfl rfl (L_build rfl bd_29 rfl rfl) ?_
   refine xmv ?_
   refine xmv ?_
   refine EOps_go rfl rfl (EOp_store rfl rfl rfl (by first | exact s_bp ty_29 | exact s_ep ty_29) ?_)
   refine xas ?_
   refine xas ?_
   refine EOps_nil ?_
   refine G_ghostB 1 0 3 1 rfl rfl (by decide) ?_
   refine G_ghostB 1 1 3 1 rfl rfl (by decide) ?_
   refine G_ghostB 1 2 76 2 rfl rfl (by decide) ?_
   refine G_ret ?_
   rw [hL.1, hL.2.1, hL.2.2]
   exact ⟨_, [8, 9, 10, 6, 7], rfl, rfl, rfl, rfl⟩
  ·exact Bool.noConfusion (hc34 : true = false)
 ·refine x_light rfl rfl rfl (L_load rfl (by first | exact d_bp ty_34 | exact ld_rp ty_34 rfl | exact d_ep ty_34)) ?_
  refine x_call rfl rfl rfl rfl rfl ca_23 (c_spec_IsSettings s) ?_
  rintro r S ⟨rfl, rfl⟩
  refine x_pure rfl rfl rfl (L_not rfl rfl) ?_
  refine x_pure rfl rfl rfl (L_pick rfl rfl) ?_
  refine xmv ?_
  refine EOps_split 30 (b := _) rfl (fun hg30 => ?_) (fun hg30 => ?_)
  ·refine x_skip rfl rfl rfl ?_
   refine x_skip rfl rfl rfl ?_
   refine x_skip rfl rfl rfl ?_
   refine x_pure rfl rfl rfl (L_pick rfl rfl) ?_
   refine EOps_nil ?_
   refine G_cond rfl (fun hc34 => ?_) (fun hc34 => ?_)
   ·have h : areQ xs s rs = false := by simp only [areQ]; simp_all
    have hL : rqC xs s rs = ⟨[], [], []⟩ ∧ rqL xs s rs = [] ∧ rqK xs s rs = [] := by simp [rqC, rqL, rqK, h]
    refine G_seq ?_
    refine G_region' (L := [0, 1, 2, 3, 4, 5]) rfl ?_
    refine x_pure rfl rfl rfl (L_build rfl bd_29 rfl rfl) ?_
    refine xmv ?_
    refine xmv ?_
    refine EOps_go rfl rfl (EOp_store rfl rfl rfl (by first | exact s_bp ty_29 | exact s_ep ty_29) ?_)
    refine xas ?_
    refine xas ?_
    refine EOps_nil ?_
    refine G_ghostB 1 0 3 1 rfl rfl (by decide) ?_
    refine G_ghostB 1 1 3 1 rfl rfl (by decide) ?_
    refine G_ghostB 1 2 76 2 rfl rfl (by decide) ?_
    refine G_ret ?_
    rw [hL.1, hL.2.1, hL.2.2]
    exact ⟨_, [8, 9, 10, 6, 7], rfl, rfl, rfl, rfl⟩
   ·exact Bool.noConfusion (hc34 : true = false)
  ·refine xmv ?_
   refine x_call rfl rfl rfl rfl rfl ca_24 (c_spec_l8Ranges rs) ?_
   rintro r S ⟨rfl, rfl⟩
   refine x_pure rfl rfl rfl (L_not rfl rfl) ?_
   refine x_pure rfl rfl rfl (L_pick rfl rfl) ?_
   refine EOps_nil ?_
   refine G_cond rfl (fun hc34 => ?_) (fun hc34 => ?_)
   ·have h : areQ xs s rs = false := by simp only [areQ]; simp_all
    have hL : rqC xs s rs = ⟨[], [], []⟩ ∧ rqL xs s rs = [] ∧ rqK xs s rs = [] := by simp [rqC, rqL, rqK, h]
    refine G_seq ?_
    refine G_region' (L := [0, 1, 2, 3, 4, 5]) rfl ?_
    refine x_pure rfl rfl rfl (L_build rfl bd_29 rfl rfl) ?_
    refine xmv ?_
    refine xmv ?_
    refine EOps_go rfl rfl (EOp_store rfl rfl rfl (by first | exact s_bp ty_29 | exact s_ep ty_29) ?_)
    refine xas ?_
    refine xas ?_
    refine EOps_nil ?_
    refine G_ghostB 1 0 3 1 rfl rfl (by decide) ?_
    refine G_ghostB 1 1 3 1 rfl rfl (by decide) ?_
    refine G_ghostB 1 2 76 2 rfl rfl (by decide) ?_
    refine G_ret ?_
    rw [hL.1, hL.2.1, hL.2.2]
    exact ⟨_, [8, 9, 10, 6, 7], rfl, rfl, rfl, rfl⟩
   ·have hq : areQ xs s rs = true := by simp only [areQ]; simp_all
    have hL : rqC xs s rs = (rqN xs s rs rs.length).1 ∧ rqL xs s rs = (rqN xs s rs rs.length).2.2.1 ∧ rqK xs s rs = (rqN xs s rs rs.length).2.2.2 := by simp [rqC, rqL, rqK, hq]
    have hq4 := areQ_parts hq
    have hxl := areVals_parts hq4.1
    refine G_skip ?_
    refine G_seq ?_
    refine G_region' (L := [0, 1, 2]) rfl ?_
    refine x_light rfl rfl rfl (L_load rfl (by first | exact d_bp ty_34 | exact ld_rp ty_34 rfl | exact d_ep ty_34)) ?_
    refine x_alloc rfl rfl rfl rfl za_34 ?_
    refine EOps_go rfl rfl (EOp_store rfl rfl rfl (by first | exact s_bp ty_34 | exact s_ep ty_34) ?_)
    refine EOps_nil ?_
    refine G_seq ?_
    refine G_seq ?_
    refine G_region' (L := [0]) rfl ?_
    refine xas ?_
    refine EOps_nil ?_
    refine G_block ?_
    refine G_drop [0, 1, 2, 4, 6, 7, 8, 9, 10, 11, 12, 13] [0, 1, 5, 8, 6, 7, 2, 3, 4] rfl rfl rfl ?_
    refine g_forD_A187_1 (α := Nat × Crk × Sett × List (List Int) × List Int) [0, 1, 2, 4, 6, 7, 8, 9, 12, 34] (fun (k, cur, st, ls, cs) => [(13, .c (.sc (.int .i64 (k)))), (10, .c (.sl 4 0 ls.length ls.length)), (11, .c (.sl 5 0 cs.length cs.length))]) (fun (k, cur, st, ls, cs) => [.box (setC s), .box [.sc (.slice none 0 0), .sc (.slice none 0 0), .sc (.slice none 0 0)], .box (crkO 6 cur), .box (setC st), .row 22 1 (nest ls), .row 3 1 (ints cs), .row 3 1 (ints cur.vals), .row 3 1 (ints cur.rows), .row 76 2 (pairs cur.piv)]) (fun (k, cur, st, ls, cs) => k ≤ rs.length ∧ rqN xs s rs k = (cur, st, ls, cs)) (fun (k, cur, st, ls, cs) => rs.length - k) ((0, newCrk xs, s, [], [])) ?_ (rfl) ⟨.inr rfl, .inr rfl, .inr rfl, trivial⟩ ?_
    ·exact ⟨Nat.zero_le _, rfl⟩
    rintro ⟨k, cur, st, ls, cs⟩ ⟨hk, hst⟩
    dsimp only at *
    refine G_seq ?_
    refine G_seq ?_
    refine G_region' (L := [0, 1, 2, 3]) rfl ?_
    refine xmv ?_
    refine xmv ?_
    refine x_pure rfl rfl rfl (l_len rfl sl_36) ?_
    refine x_pure rfl rfl rfl (L_bin rfl rfl rfl rfl) ?_
    refine EOps_nil ?_
    refine G_cond rfl (fun hc42 => ?_) (fun hc42 => ?_)
    ·have hc42' : k < (rs).length := by simpa [ints_len, bools_len, pairs_len, quads_len, quints_len] using hc42
     obtain ⟨r, hrk⟩ : ∃ x, (rs)[k]? = some x := ⟨_, List.getElem?_eq_getElem hc42'⟩
     have hok := rq_ok hq4.1 hq4.2.1 hq4.2.2.2 k hk hst
     have okc := hok.oc
     have oks := hok.os
     have okl := hok.ll
     have okk := hok.lc
     have hcl := crk_lens okc
     have hnx := rq_next hrk hst
     have hrr := hq4.2.2.2 r (List.mem_of_getElem? hrk)
     have hvv := nest_len ls
     have hl30 := hq4.2.2.1
     have hsk : swK cur st r = true := by simp [swK, okc, oks, hrr]
     have hsw : swC cur st r = (sw2 cur st r).1 ∧ swS cur st r = (sw2 cur st r).2.1 ∧ swL cur st r = swR (sw2 cur st r).1 r ∧ swN cur st r = totW (sw1 cur st r).2.2 + totW (sw2 cur st r).2.2 := by simp [swC, swS, swL, swN, hsk]
     refine G_skip ?_
     refine G_seq ?_
     refine G_block ?_
     refine G_seq ?_
     refine g_tidy_A187_0 [0, 1, 2, 4, 6, 7, 8, 9, 10, 11, 12, 13, 14, 15, 16, 17, 34, 42] ?_
     refine G_drawT mixed ?_
     refine t_light 0 rfl rfl rfl (L_load rfl (by first | exact d_bp ty_29 | exact ld_rp ty_29 rfl | exact d_ep ty_29)) ?_
     refine t_light 1 rfl rfl rfl (L_load rfl (by first | exact d_bp ty_34 | exact ld_rp ty_34 rfl | exact d_ep ty_34)) ?_
     refine t_old 2 rfl rfl rfl (L_move rfl) ?_
     refine t_old 3 rfl rfl rfl (L_move rfl) ?_
     refine t_old 4 rfl rfl rfl (L_index rfl rfl (by first | exact i_ro sl_36 ty_54 | exact i_sl sl_36 ty_54)) ?_
     refine t_light 5 rfl rfl rfl (L_load rfl (by first | exact d_bp ty_54 | exact ld_rp ty_54 rfl | exact d_ep ty_54)) ?_
     refine t_main 4 [(⟨none, 12, 14, 0⟩, _), (⟨none, 13, 15, 0⟩, _)] [(6, false), (7, true), (8, true), (9, true), (10, true), (11, true)] [52, 45, 53, 54, 55, 56] [(14, .any), (15, .any), (52, .any), (45, .any), (53, .any), (54, .any), (55, .any), (56, .any)] [6, 7, 8, 9, 10, 11, 12, 13] ⟨.one rfl rfl rfl (by decide) (F_alloc rfl za_29), .one rfl rfl rfl (by decide) (F_alloc rfl za_34), trivial⟩ ?_
     refine m_call rfl rfl rfl rfl rfl ca_25 (c_spec_SelectWith cur st r (by omega)) ?_
     rintro r S ⟨rfl, rfl⟩
     rw [hsw.1, hsw.2.1, hsw.2.2.1, hsw.2.2.2]
     clear hsw
     generalize totW (sw1 cur st r).2.2 + totW (sw2 cur st r).2.2 = nn at *
     generalize swR (sw2 cur st r).1 r = aa at *
     generalize sw2 cur st r = P at *
     obtain ⟨c2, st2, l2⟩ := P
     dsimp only at *
     refine m_pure rfl rfl rfl (L_move rfl) ?_
     refine m_pure rfl rfl rfl (L_extract rfl rfl) ?_
     refine m_pure rfl rfl rfl (L_extract rfl rfl) ?_
     refine m_pure rfl rfl rfl (L_extract rfl rfl) ?_
     refine m_pure rfl rfl rfl (L_extract rfl rfl) ?_
     refine m_done ?_
     refine fk_cons ?_
     rintro r S ⟨rfl, rfl⟩
     refine fk_cons ?_
     rintro r S ⟨rfl, rfl⟩
     refine fk_nil ?_
     refine t_turn 14 rfl rfl (EOp_store rfl rfl rfl (by first | exact s_bp ty_29 | exact s_ep ty_29) ?_)
     refine t_turn 15 rfl rfl (EOp_store rfl rfl rfl (by first | exact s_bp ty_34 | exact s_ep ty_34) ?_)
     refine t_old 16 rfl rfl rfl (L_assign rfl) ?_
     refine t_old 17 rfl rfl rfl (L_assign rfl) ?_
     refine T_done (by kernel_rfl) ?_
     refine G_seq ?_
     refine G_region' (L := [0, 1]) rfl ?_
     refine x_light rfl rfl rfl (L_load rfl (by first | exact d_bp ty_29 | exact ld_rp ty_29 rfl | exact d_ep ty_29)) ?_
     refine EOps_go rfl rfl (EOp_store rfl rfl rfl (by first | exact s_bp ty_29 | exact s_ep ty_29) ?_)
     refine EOps_nil ?_
     refine G_seq ?_
     refine G_region' (L := [0, 1]) rfl ?_
     refine x_light rfl rfl rfl (L_load rfl (by first | exact d_bp ty_34 | exact ld_rp ty_34 rfl | exact d_ep ty_34)) ?_
     refine EOps_go rfl rfl (EOp_store rfl rfl rfl (by first | exact s_bp ty_34 | exact s_ep ty_34) ?_)
     refine EOps_nil ?_
     refine G_seq ?_
     refine (X_pin 16 rfl).G fun v => ?_
     refine G_region' (L := [0, 1, 2, 3, 4]) rfl ?_
     refine xmv ?_
     refine xmv ?_
     refine EOps_go rfl rfl (Heavy.op (H_bslice_ro rfl rfl (by decide) sl_30 ty_22 za_22 ⟨rfl, by decide⟩ (by decide) rfl rfl rfl rfl ?_))
     refine EOps_go rfl rfl (EOp_append (news := (vrow [v])) rfl rfl (by decide) sl_30 ty_22 by_22 za_22 ⟨rfl, by decide⟩ rfl (by first | rfl | assumption) (by first | assumption | exact ints_len _ | exact pairs_len _ | exact quads_len _ | exact quints_len _ | exact bools_len _ | (simp [ints_len, bools_len, pairs_len, quads_len, quints_len, part_len, *]; done) | (simp [ints_len, bools_len, pairs_len, quads_len, quints_len]; omega) | rfl) (by first | (refine lend_whole rfl ?_; first | assumption | exact ints_len _ | exact pairs_len _ | exact quads_len _ | exact quints_len _ | exact bools_len _ | (simp [ints_len, bools_len, pairs_len, quads_len, quints_len, part_len, *]; done) | (simp [ints_len, bools_len, pairs_len, quads_len, quints_len]; omega) | rfl) | rfl | simp [E.lend, lendC]) (by exact vrow_row _) (by simp [vrow_len]; omega) ?_)
     refine xas ?_
     refine EOps_nil ?_
     refine (X_absorb 4 ls.length 0 15 12 rfl (nest_at ls v) rfl rfl rfl (ints_len _) (by decide) rfl).G fun _ => ?_
     refine G_region' (L := [0, 1, 2, 3, 4]) rfl ?_
     refine xmv ?_
     refine xmv ?_
     refine EOps_go rfl rfl (Heavy.op (H_bslice_ro rfl rfl (by decide) sl_22 ty_3 za_3 ⟨rfl, by decide⟩ (by decide) rfl rfl rfl rfl ?_))
     refine EOps_go rfl rfl (EOp_append (news := (ints [nn])) rfl rfl (by decide) sl_22 ty_3 by_3 za_3 ⟨rfl, by decide⟩ rfl (by first | rfl | assumption) (by first | assumption | exact ints_len _ | exact pairs_len _ | exact quads_len _ | exact quints_len _ | exact bools_len _ | (simp [ints_len, bools_len, pairs_len, quads_len, quints_len, part_len, *]; done) | (simp [ints_len, bools_len, pairs_len, quads_len, quints_len]; omega) | rfl) (by first | (refine lend_whole rfl ?_; first | assumption | exact ints_len _ | exact pairs_len _ | exact quads_len _ | exact quints_len _ | exact bools_len _ | (simp [ints_len, bools_len, pairs_len, quads_len, quints_len, part_len, *]; done) | (simp [ints_len, bools_len, pairs_len, quads_len, quints_len]; omega) | rfl) | rfl | simp [E.lend, lendC]) (by first | exact ints_row _ | exact pairs_row _ | exact quads_row _ | exact quints_row _ | exact bools_row _ | (intro r hr; simp [chunk] at hr; subst hr; exact ⟨rfl, rfl⟩)) (by simp [ints_len, bools_len, pairs_len, quads_len, quints_len, chunk]; omega) ?_)
     refine xas ?_
     refine EOps_nil ?_
     refine G_region' (L := [0, 1, 2]) rfl ?_
     refine xmv ?_
     refine x_pure rfl rfl rfl (by first | exact l_add rfl rfl rfl | exact L_bin rfl rfl rfl rfl) ?_
     refine xas ?_
     refine EOps_nil ?_
     refine ⟨[0, 1, 2, 3, 4, 5, 9, 10, 11], rfl, (k + 1, c2, st2, ls ++ [aa], cs ++ [nn]), ?_, ?_, by rw [← nest_push ls v aa, ← ints_app]; rfl, ⟨.inr rfl, .inr ((by rw [show (ls ++ [aa]).length = ls.length + (vrow [v]).length by simp [vrow_len]] <;> rfl)), .inr ((by rw [show (cs ++ [nn]).length = cs.length + (ints [nn]).length by simp [ints_len]] <;> rfl)), trivial⟩, ⟨.inr rfl, .inr rfl, .inr rfl, .inr rfl, .inr rfl, .inr rfl, .inr rfl, .inr rfl, .inr rfl, .inr rfl, trivial⟩⟩
     ·first | omega | (dsimp only; omega) | (simp; omega)
     ·exact ⟨by omega, hnx⟩
    ·have hk' : rs.length ≤ k := by simpa [pairs_len] using hc42
     obtain rfl : k = rs.length := by omega
     refine G_exit ?_
     refine G_seq ?_
     refine G_region' (L := [0, 1, 2, 3, 4, 5]) rfl ?_
     refine x_light rfl rfl rfl (L_load rfl (by first | exact d_bp ty_29 | exact ld_rp ty_29 rfl | exact d_ep ty_29)) ?_
     refine xmv ?_
     refine xmv ?_
     refine EOps_go rfl rfl (EOp_store rfl rfl rfl (by first | exact s_bp ty_29 | exact s_ep ty_29) ?_)
     refine xas ?_
     refine xas ?_
     refine EOps_nil ?_
     refine G_ret ?_
     rw [hL.1, hL.2.1, hL.2.2, hst]
     exact ⟨_, [6, 7, 8, 4, 5], rfl, rfl, rfl, rfl⟩

end Go.Proofs.YthnadkagchbhbaaGreat.E
