/- Walks through functions, by program out of the session's annotations. -/
import Derived.Test.YthnadkagchbhbaaGreatA03
import Derived.Test.YthnadkagchbhbaaGreatA06
namespace Go.Proofs.YthnadkagchbhbaaGreat.E
open Go Go.RowKit Go.Proofs
set_option linter.unusedVariables false
set_option linter.unusedSimpArgs false

/-- The rows of a new column. -/
def upto : Nat → List Int
 | 0 => []
 | n + 1 => upto n ++ [(n : Int)]
theorem upto_len : ∀ n, (upto n).length = n
 | 0 => rfl
 | n + 1 => by simp [upto, upto_len n]
def newCrk (xs : List Int) : Crk := if areVals xs = true then ⟨xs, upto xs.length, []⟩ else ⟨[], [], []⟩
/-- A column of the callee's own. -/
def crkO (n : Nat) (c : Crk) : List AC := [.sl n 0 c.vals.length c.vals.length, .sl (n + 1) 0 c.rows.length c.rows.length, .sl (n + 2) 0 c.piv.length c.piv.length]
def crkR (ti tp : Nat) (c : Crk) : List Res := [.row ti 1 (ints c.vals), .row ti 1 (ints c.rows), .row tp 2 (pairs c.piv)]
set_option maxRecDepth 20000 in
set_option maxHeartbeats 2000000 in
theorem c_slices_Clone___int_int_0 (xs : List Int) (hn : xs.length ≤ 1048576) : EFn Tryz.prog 57 [.c (.ro (ints xs))] [] (fun r S => (r = .c (.sl 0 0 xs.length xs.length) ∧ S = [.row 3 1 (ints xs)]) ∨ (r = .c (.sc (.slice none 0 0)) ∧ S = [] ∧ xs = [])) := by
 refine E_fn Tryz.func57 rfl (Nat.le_of_ble_eq_true rfl) ?_
 refine E_seq ?_
 refine E_region' (L := [0]) rfl ?_
 refine xas ?_
 refine EOps_nil ?_
 refine E_seq ?_
 refine E_seq ?_
 refine E_region' (L := [0, 1]) rfl ?_
 refine xmv ?_
 refine EOps_go rfl rfl (Heavy.op (H_nil rfl rfl (by decide) sl_22 rfl ?_))
 rintro b4 hb4
 refine EOps_nil ?_
 refine E_cond rfl (fun hc4 => ?_) (fun hc4 => ?_)
 ·have he : xs = [] := by have := hb4 hc4; exact ints_inj (ys := []) this
  refine E_seq ?_
  refine E_region' (L := [0]) rfl ?_
  refine xas ?_
  refine EOps_nil ?_
  refine E_ret ?_
  exact ⟨_, [], rfl, rfl, .inr ⟨rfl, rfl, he⟩⟩
 ·refine E_skip ?_
  refine E_seq ?_
  refine E_region' (L := [0, 1, 2, 3]) rfl ?_
  refine EOps_go rfl rfl (Heavy.op (H_bslice rfl rfl (by decide) sl_22 ty_3 za_3 ⟨rfl, by decide⟩ (by decide) rfl rfl rfl rfl ?_))
  refine xmv ?_
  refine EOps_go rfl rfl (EOp_append (news := ints xs) rfl rfl (by decide) sl_22 ty_3 by_3 za_3 ⟨rfl, by decide⟩ rfl (by first | rfl | assumption) (by first | assumption | exact ints_len _ | exact pairs_len _ | exact quads_len _ | exact quints_len _ | exact bools_len _ | (simp [ints_len, bools_len, pairs_len, quads_len, quints_len, part_len, *]; done) | (simp [ints_len, bools_len, pairs_len, quads_len, quints_len]; omega) | rfl) (by first | (refine lend_whole rfl ?_; first | assumption | exact ints_len _ | exact pairs_len _ | exact quads_len _ | exact quints_len _ | exact bools_len _ | (simp [ints_len, bools_len, pairs_len, quads_len, quints_len, part_len, *]; done) | (simp [ints_len, bools_len, pairs_len, quads_len, quints_len]; omega) | rfl) | rfl | simp [E.lend, lendC]) (by first | exact ints_row _ | exact pairs_row _ | exact quads_row _ | exact quints_row _ | exact bools_row _ | (intro r hr; simp [chunk] at hr; subst hr; exact ⟨rfl, rfl⟩)) (by simp [ints_len, bools_len, pairs_len, quads_len, quints_len, chunk]; omega) ?_)
  refine xas ?_
  refine EOps_nil ?_
  refine E_ret ?_
  refine ⟨_, [0], rfl, rfl, .inl ⟨?_, ?_⟩⟩
  ·simp [AV.ren, ren_sc, ren_ro, AC.ren, AC.ren.rens, ix, rv1, E.get, E.ev, E.cv, E.fill', E.fill, E.slotsOf, ints_len]
  ·simp [reR, Res.ren, chunk]

theorem c_slices_Clone___int_int_ (xs : List Int) (hn : xs.length ≤ 1048576) : EFn Tryz.prog 57 [.c (.ro (ints xs))] [] (fun r S => r = .c (.sl 0 0 xs.length xs.length) ∧ S = [.row 3 1 (ints xs)]) :=
 (c_slices_Clone___int_int_0 xs hn).ghost (by
  rintro r S (⟨rfl, rfl⟩ | ⟨rfl, rfl, rfl⟩)
  ·exact .inl ⟨rfl, rfl⟩
  ·exact .inr (.inr ⟨_, .sl 0 0 0 0, [some (3, 1)], rfl, rfl, rfl, rfl, rfl⟩))

set_option maxRecDepth 20000 in
set_option maxHeartbeats 2000000 in
theorem c_impl_NewCracker (xs : List Int) (hn : xs.length ≤ 1048576) : EFn Tryz.prog 44 [.c (.ro (ints xs))] [] (fun r S => r = .agg (crkO 0 (newCrk xs)) ∧ S = crkR 3 76 (newCrk xs)) := by
 refine E_fn Tryz.func44 rfl (Nat.le_of_ble_eq_true rfl) ?_
 refine E_seq ?_
 refine E_region' (L := [0]) rfl ?_
 refine x_alloc rfl rfl rfl rfl za_29 ?_
 refine EOps_nil ?_
 refine E_seq ?_
 refine E_seq ?_
 refine e_tidy [0, 2] ?_
 refine E_region' (L := [0, 1, 2]) rfl ?_
 refine xmv ?_
 refine x_call rfl rfl rfl rfl rfl ca_41 (c_impl_AreValues xs) ?_
 rintro r S ⟨rfl, rfl⟩
 refine x_pure rfl rfl rfl (L_not rfl rfl) ?_
 refine EOps_nil ?_
 refine E_cond rfl (fun hc7 => ?_) (fun hc7 => ?_)
 ·have hv : areVals xs = false := by simpa using hc7
  have he : newCrk xs = ⟨[], [], []⟩ := by rw [newCrk, hv]; rfl
  refine E_seq ?_
  refine E_region' (L := [0, 1]) rfl ?_
  refine x_pure rfl rfl rfl (L_build rfl bd_29 rfl rfl) ?_
  refine EOps_go rfl rfl (EOp_store rfl rfl rfl (by first | exact s_bp ty_29 | exact s_ep ty_29) ?_)
  refine EOps_nil ?_
  refine E_ghostB 0 0 3 1 rfl rfl (by decide) ?_
  refine E_ghostB 0 1 3 1 rfl rfl (by decide) ?_
  refine E_ghostB 0 2 76 2 rfl rfl (by decide) ?_
  refine E_ret ?_
  rw [he]
  exact ⟨_, [1, 2, 3], rfl, rfl, rfl, rfl⟩
 ·have hv : areVals xs = true := by simpa using hc7
  have he : newCrk xs = ⟨xs, upto xs.length, []⟩ := by rw [newCrk, hv]; rfl
  refine E_skip ?_
  refine E_seq ?_
  refine e_tidy [0, 2, 7] ?_
  refine E_region' (L := [0, 1, 2, 3, 4]) rfl ?_
  refine xmv ?_
  refine x_call rfl rfl rfl rfl rfl ca_57 (c_slices_Clone___int_int_ xs hn) ?_
  rintro r S ⟨rfl, rfl⟩
  refine x_pure rfl rfl rfl (L_build rfl bd_29 rfl rfl) ?_
  refine x_alloc rfl rfl rfl rfl za_29 ?_
  refine EOps_go rfl rfl (EOp_store rfl rfl rfl (by first | exact s_bp ty_29 | exact s_ep ty_29) ?_)
  refine EOps_nil ?_
  refine E_seq ?_
  refine E_seq ?_
  refine E_region' (L := [0, 1, 2]) rfl ?_
  refine xmv ?_
  refine x_pure rfl rfl rfl (l_len rfl sl_22) ?_
  refine xmv ?_
  refine EOps_nil ?_
  refine E_block ?_
  refine E_ghostB 2 1 3 1 rfl rfl (by decide) ?_
  refine E_ghostB 2 2 76 2 rfl rfl (by decide) ?_
  refine e_for (α := Nat) [0, 2, 3, 7, 13] (fun k => [(14, .c (.sc (.int .i64 (k)))), (4, .any)]) (fun k => [.box [.sc (.slice none 0 0), .sc (.slice none 0 0), .sc (.slice none 0 0)], .row 3 1 (ints xs), .box [.sl 1 0 xs.length xs.length, .sl 3 0 k k, .sl 4 0 0 0], .row 3 1 (ints (upto k)), .row 76 2 []]) (fun k => k ≤ xs.length) (fun k => xs.length - k) (0) ?_ (by (try simp only [E.keepOf, E.get, E.ev, E.cv, E.fill', E.fill, E.slotsOf, Res.sh, AC.sh, AC.sh.shs, AV.sh, E.splice, List.map_cons, List.map_nil, List.cons_append, List.nil_append, List.append_nil, List.length_cons, List.length_nil, List.take_zero, List.drop_zero, List.take_succ_cons, List.drop_succ_cons, List.drop_nil, List.take_nil, List.set_cons_zero, List.set_cons_succ, Nat.zero_add, Nat.add_zero, Nat.reduceAdd, Nat.reduceSub, reduceIte, Nat.reduceEqDiff, E.back, E.backR, E.ix, Res.un, AC.un, AC.un.uns, AV.un, E.un, Option.map_some, Option.map_none, Option.getD_some, List.getElem?_cons_zero, List.getElem?_cons_succ, List.getElem?_nil]); rfl) ⟨.inr rfl, .inl rfl, trivial⟩ ?_
  ·simp
  rintro k hk
  refine E_seq ?_
  refine E_region' (L := [0]) rfl ?_
  refine x_pure rfl rfl rfl (L_bin rfl rfl rfl rfl) ?_
  refine EOps_nil ?_
  refine E_seq ?_
  refine E_cond rfl (fun hc15 => ?_) (fun hc15 => ?_)
  ·have hc15' : k < (xs).length := by simpa [ints_len, bools_len, pairs_len, quads_len, quints_len] using hc15
   obtain ⟨x, hx⟩ : ∃ x, (xs)[k]? = some x := ⟨_, List.getElem?_eq_getElem hc15'⟩
   refine E_skip ?_
   refine E_seq ?_
   refine E_block ?_
   refine E_seq ?_
   refine E_region' (L := [0, 1]) rfl ?_
   refine xmv ?_
   refine xas ?_
   refine EOps_nil ?_
   refine E_region' (L := [0, 1, 2, 3, 4, 5, 6]) rfl ?_
   refine x_pure rfl rfl rfl (l_field rfl fo_29_1) ?_
   refine x_light rfl rfl rfl (L_load rfl (by first | exact d_bp ty_22 | exact ld_rp ty_22 rfl | exact d_ep ty_22)) ?_
   refine xmv ?_
   refine EOps_go rfl rfl (Heavy.op (H_bslice_ro rfl rfl (by decide) sl_22 ty_3 za_3 ⟨rfl, by decide⟩ (by decide) rfl rfl rfl rfl ?_))
   have hul : (ints (upto k)).length = k := by rw [ints_len, upto_len]
   refine EOps_go rfl rfl (EOp_append (news := [[T.sc (.int .i64 (k : Int))]]) rfl rfl (by decide) sl_22 ty_3 by_3 za_3 ⟨rfl, by decide⟩ rfl (by first | rfl | assumption) (by first | assumption | exact ints_len _ | exact pairs_len _ | exact quads_len _ | exact quints_len _ | exact bools_len _ | (simp [ints_len, bools_len, pairs_len, quads_len, quints_len, part_len, *]; done) | (simp [ints_len, bools_len, pairs_len, quads_len, quints_len]; omega) | rfl) (by first | (refine lend_whole rfl ?_; first | assumption | exact ints_len _ | exact pairs_len _ | exact quads_len _ | exact quints_len _ | exact bools_len _ | (simp [ints_len, bools_len, pairs_len, quads_len, quints_len, part_len, *]; done) | (simp [ints_len, bools_len, pairs_len, quads_len, quints_len]; omega) | rfl) | rfl | simp [E.lend, lendC]) (by first | exact ints_row _ | exact pairs_row _ | exact quads_row _ | exact quints_row _ | exact bools_row _ | (intro r hr; simp [chunk] at hr; subst hr; exact ⟨rfl, rfl⟩)) (by simp [ints_len, bools_len, pairs_len, quads_len, quints_len, chunk]; omega) ?_)
   refine x_pure rfl rfl rfl (l_field rfl fo_29_1) ?_
   refine EOps_go rfl rfl (EOp_store rfl rfl rfl (by first | exact s_bp ty_22 | exact s_ep ty_22) ?_)
   refine EOps_nil ?_
   refine E_region' (L := [0, 1]) rfl ?_
   refine x_pure rfl rfl rfl (by first | exact l_add rfl rfl rfl | exact L_bin rfl rfl rfl rfl) ?_
   refine xmv ?_
   refine EOps_nil ?_
   refine ⟨k + 1, ?_, ?_, by simp [upto, ← ints_app, ints]; rfl, ⟨.inr rfl, .inl rfl, trivial⟩, ⟨.inr rfl, .inr rfl, .inr rfl, .inr rfl, .inr rfl, trivial⟩⟩
   ·first | omega | (dsimp only; omega) | (simp; omega)
   ·first | trivial | omega | (dsimp only; omega) | (simp; omega)
  ·have hk0 : xs.length ≤ k := by simpa [ints_len] using hc15
   have hk' : k = xs.length := by omega
   refine E_exit ?_
   refine E_seq ?_
   refine E_region' (L := [0, 1]) rfl ?_
   refine x_light rfl rfl rfl (L_load rfl (by first | exact d_bp ty_29 | exact ld_rp ty_29 rfl | exact d_ep ty_29)) ?_
   refine EOps_go rfl rfl (EOp_store rfl rfl rfl (by first | exact s_bp ty_29 | exact s_ep ty_29) ?_)
   refine EOps_nil ?_
   refine E_ret ?_
   rw [he]
   refine ⟨_, [1, 3, 4], rfl, rfl, ?_, ?_⟩
   ·subst hk'
    simp only [crkO, upto_len]
    rfl
   ·subst hk'; rfl

set_option maxRecDepth 20000 in
set_option maxHeartbeats 2000000 in
theorem c_spec_NewCracker (xs : List Int) (hn : xs.length ≤ 1048576) : EFn Tryz.prog 21 [.c (.ro (ints xs))] [] (fun r S => r = .agg (crkO 0 (newCrk xs)) ∧ S = crkR 3 76 (newCrk xs)) := by
 refine E_fn Tryz.func21 rfl (Nat.le_of_ble_eq_true rfl) ?_
 refine E_seq ?_
 refine E_region' (L := [0]) rfl ?_
 refine x_alloc rfl rfl rfl rfl za_29 ?_
 refine EOps_nil ?_
 refine E_seq ?_
 refine E_seq ?_
 refine e_tidy [0, 2] ?_
 refine E_region' (L := [0, 1, 2]) rfl ?_
 refine xmv ?_
 refine x_call rfl rfl rfl rfl rfl ca_22 (c_spec_AreValues xs) ?_
 rintro r S ⟨rfl, rfl⟩
 refine x_pure rfl rfl rfl (L_not rfl rfl) ?_
 refine EOps_nil ?_
 refine E_cond rfl (fun hc7 => ?_) (fun hc7 => ?_)
 ·have hv : areVals xs = false := by simpa using hc7
  have he : newCrk xs = ⟨[], [], []⟩ := by rw [newCrk, hv]; rfl
  refine E_seq ?_
  refine E_region' (L := [0, 1]) rfl ?_
  refine x_pure rfl rfl rfl (L_build rfl bd_29 rfl rfl) ?_
  refine EOps_go rfl rfl (EOp_store rfl rfl rfl (by first | exact s_bp ty_29 | exact s_ep ty_29) ?_)
  refine EOps_nil ?_
  refine E_ghostB 0 0 3 1 rfl rfl (by decide) ?_
  refine E_ghostB 0 1 3 1 rfl rfl (by decide) ?_
  refine E_ghostB 0 2 76 2 rfl rfl (by decide) ?_
  refine E_ret ?_
  rw [he]
  exact ⟨_, [1, 2, 3], rfl, rfl, rfl, rfl⟩
 ·have hv : areVals xs = true := by simpa using hc7
  have he : newCrk xs = ⟨xs, upto xs.length, []⟩ := by rw [newCrk, hv]; rfl
  refine E_skip ?_
  refine E_seq ?_
  refine E_region' (L := [0, 1, 2, 3, 4, 5]) rfl ?_
  refine EOps_go rfl rfl (Heavy.op (H_bslice rfl rfl (by decide) sl_22 ty_3 za_3 ⟨rfl, by decide⟩ (by decide) rfl rfl rfl rfl ?_))
  refine xmv ?_
  refine EOps_go rfl rfl (EOp_append (news := ints xs) rfl rfl (by decide) sl_22 ty_3 by_3 za_3 ⟨rfl, by decide⟩ rfl (by first | rfl | assumption) (by first | assumption | exact ints_len _ | exact pairs_len _ | exact quads_len _ | exact quints_len _ | exact bools_len _ | (simp [ints_len, bools_len, pairs_len, quads_len, quints_len, part_len, *]; done) | (simp [ints_len, bools_len, pairs_len, quads_len, quints_len]; omega) | rfl) (by first | (refine lend_whole rfl ?_; first | assumption | exact ints_len _ | exact pairs_len _ | exact quads_len _ | exact quints_len _ | exact bools_len _ | (simp [ints_len, bools_len, pairs_len, quads_len, quints_len, part_len, *]; done) | (simp [ints_len, bools_len, pairs_len, quads_len, quints_len]; omega) | rfl) | rfl | simp [E.lend, lendC]) (by first | exact ints_row _ | exact pairs_row _ | exact quads_row _ | exact quints_row _ | exact bools_row _ | (intro r hr; simp [chunk] at hr; subst hr; exact ⟨rfl, rfl⟩)) (by simp [ints_len, bools_len, pairs_len, quads_len, quints_len, chunk]; omega) ?_)
  refine x_pure rfl rfl rfl (L_build rfl bd_29 rfl rfl) ?_
  refine x_alloc rfl rfl rfl rfl za_29 ?_
  refine EOps_go rfl rfl (EOp_store rfl rfl rfl (by first | exact s_bp ty_29 | exact s_ep ty_29) ?_)
  refine EOps_nil ?_
  refine E_seq ?_
  refine E_seq ?_
  refine E_region' (L := [0]) rfl ?_
  refine xas ?_
  refine EOps_nil ?_
  refine E_block ?_
  refine E_ghostB 2 1 3 1 rfl rfl (by decide) ?_
  refine E_ghostB 2 2 76 2 rfl rfl (by decide) ?_
  refine e_for (α := Nat) [0, 2, 3, 7] (fun k => [(4, .c (.sc (.int .i64 (k))))]) (fun k => [.box [.sc (.slice none 0 0), .sc (.slice none 0 0), .sc (.slice none 0 0)], .row 3 1 (ints xs), .box [.sl 1 0 xs.length xs.length, .sl 3 0 k k, .sl 4 0 0 0], .row 3 1 (ints (upto k)), .row 76 2 []]) (fun k => k ≤ xs.length) (fun k => xs.length - k) (0) ?_ (by simp [Res.sh, AC.sh, splice, chunk, upto, ints]) ⟨.inr rfl, trivial⟩ ?_
  ·simp
  rintro k hk
  refine E_seq ?_
  refine E_seq ?_
  refine E_region' (L := [0, 1, 2, 3]) rfl ?_
  refine xmv ?_
  refine xmv ?_
  refine x_pure rfl rfl rfl (l_len rfl sl_22) ?_
  refine x_pure rfl rfl rfl (L_bin rfl rfl rfl rfl) ?_
  refine EOps_nil ?_
  refine E_cond rfl (fun hc16 => ?_) (fun hc16 => ?_)
  ·have hc16' : k < (xs).length := by simpa [ints_len, bools_len, pairs_len, quads_len, quints_len] using hc16
   obtain ⟨x, hx⟩ : ∃ x, (xs)[k]? = some x := ⟨_, List.getElem?_eq_getElem hc16'⟩
   refine E_skip ?_
   refine E_seq ?_
   refine E_block ?_
   refine E_region' (L := [0, 1, 2, 3, 4, 5, 6]) rfl ?_
   refine x_pure rfl rfl rfl (l_field rfl fo_29_1) ?_
   refine x_light rfl rfl rfl (L_load rfl (by first | exact d_bp ty_22 | exact ld_rp ty_22 rfl | exact d_ep ty_22)) ?_
   refine xmv ?_
   refine EOps_go rfl rfl (Heavy.op (H_bslice_ro rfl rfl (by decide) sl_22 ty_3 za_3 ⟨rfl, by decide⟩ (by decide) rfl rfl rfl rfl ?_))
   have hul : (ints (upto k)).length = k := by rw [ints_len, upto_len]
   refine EOps_go rfl rfl (EOp_append (news := [[T.sc (.int .i64 (k : Int))]]) rfl rfl (by decide) sl_22 ty_3 by_3 za_3 ⟨rfl, by decide⟩ rfl (by first | rfl | assumption) (by first | assumption | exact ints_len _ | exact pairs_len _ | exact quads_len _ | exact quints_len _ | exact bools_len _ | (simp [ints_len, bools_len, pairs_len, quads_len, quints_len, part_len, *]; done) | (simp [ints_len, bools_len, pairs_len, quads_len, quints_len]; omega) | rfl) (by first | (refine lend_whole rfl ?_; first | assumption | exact ints_len _ | exact pairs_len _ | exact quads_len _ | exact quints_len _ | exact bools_len _ | (simp [ints_len, bools_len, pairs_len, quads_len, quints_len, part_len, *]; done) | (simp [ints_len, bools_len, pairs_len, quads_len, quints_len]; omega) | rfl) | rfl | simp [E.lend, lendC]) (by first | exact ints_row _ | exact pairs_row _ | exact quads_row _ | exact quints_row _ | exact bools_row _ | (intro r hr; simp [chunk] at hr; subst hr; exact ⟨rfl, rfl⟩)) (by simp [ints_len, bools_len, pairs_len, quads_len, quints_len, chunk]; omega) ?_)
   refine x_pure rfl rfl rfl (l_field rfl fo_29_1) ?_
   refine EOps_go rfl rfl (EOp_store rfl rfl rfl (by first | exact s_bp ty_22 | exact s_ep ty_22) ?_)
   refine EOps_nil ?_
   refine E_region' (L := [0, 1, 2]) rfl ?_
   refine xmv ?_
   refine x_pure rfl rfl rfl (by first | exact l_add rfl rfl rfl | exact L_bin rfl rfl rfl rfl) ?_
   refine xas ?_
   refine EOps_nil ?_
   refine ⟨k + 1, ?_, ?_, by simp [upto, ← ints_app, ints]; rfl, ⟨.inr rfl, trivial⟩, ⟨.inr rfl, .inr rfl, .inr rfl, .inr rfl, trivial⟩⟩
   ·first | omega | (dsimp only; omega) | (simp; omega)
   ·first | trivial | omega | (dsimp only; omega) | (simp; omega)
  ·have hk0 : xs.length ≤ k := by simpa [ints_len] using hc16
   have hk' : k = xs.length := by omega
   refine E_exit ?_
   refine E_seq ?_
   refine E_region' (L := [0, 1]) rfl ?_
   refine x_light rfl rfl rfl (L_load rfl (by first | exact d_bp ty_29 | exact ld_rp ty_29 rfl | exact d_ep ty_29)) ?_
   refine EOps_go rfl rfl (EOp_store rfl rfl rfl (by first | exact s_bp ty_29 | exact s_ep ty_29) ?_)
   refine EOps_nil ?_
   refine E_ret ?_
   rw [he]
   refine ⟨_, [1, 3, 4], rfl, rfl, ?_, ?_⟩
   ·subst hk'
    simp only [crkO, upto_len]
    rfl
   ·subst hk'; rfl

/-- The numbers that a mark leaves. -/
def seqF (q : Int) : Nat → List Int
 | 0 => []
 | n + 1 => seqF q n ++ [q + n]
theorem seqF_len (q : Int) : ∀ n, (seqF q n).length = n
 | 0 => rfl
 | n + 1 => by simp [seqF, seqF_len q n]
theorem seqF_at (q : Int) : ∀ (n k : Nat), k < n → (seqF q n)[k]? = some (q + k)
 | n + 1, k, h => by
  unfold seqF
  rcases Nat.lt_or_ge k n with h' | h'
  ·rw [List.getElem?_append_left (by rw [seqF_len]; exact h')]; exact seqF_at q n k h'
  ·have : k = n := by omega
   subst this
   rw [List.getElem?_append_right (by rw [seqF_len]; omega), seqF_len]; simp
def seqP (q : Int) : Nat → List (Int × Int)
 | 0 => []
 | n + 1 => seqP q n ++ [(q + 2 * n, q + 2 * n + 1)]
theorem seqP_len (q : Int) : ∀ n, (seqP q n).length = n
 | 0 => rfl
 | n + 1 => by simp [seqP, seqP_len q n]
theorem seqP_at (q : Int) : ∀ (n k : Nat), k < n → (seqP q n)[k]? = some (q + 2 * k, q + 2 * k + 1)
 | n + 1, k, h => by
  unfold seqP
  rcases Nat.lt_or_ge k n with h' | h'
  ·rw [List.getElem?_append_left (by rw [seqP_len]; exact h')]; exact seqP_at q n k h'
  ·have : k = n := by omega
   subst this
   rw [List.getElem?_append_right (by rw [seqP_len]; omega), seqP_len]; simp
theorem over_at {α : Type} {l xs : List α} {k : Nat} (hl : l.length = k) (hk : k < xs.length) : ∃ x, xs[k]? = some x ∧ (l ++ xs.drop k)[k]? = some x ∧ ∀ y, (l ++ xs.drop k).set k y = (l ++ [y]) ++ xs.drop (k + 1) := by
 refine ⟨xs[k], List.getElem?_eq_getElem hk, ?_, fun y => ?_⟩
 ·rw [List.getElem?_append_right (by omega), hl, Nat.sub_self, List.getElem?_drop]; simp [hk]
 ·rw [List.set_append, if_neg (by omega), hl, Nat.sub_self, List.drop_eq_getElem_cons hk, List.set_cons_zero, List.append_assoc]; rfl

end Go.Proofs.YthnadkagchbhbaaGreat.E
