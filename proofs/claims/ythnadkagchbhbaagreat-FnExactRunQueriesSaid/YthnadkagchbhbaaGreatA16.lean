/- Walks through functions, by program out of the session's annotations. -/
import Derived.Test.YthnadkagchbhbaaGreatA14
import Derived.Test.YthnadkagchbhbaaGreatA08
namespace Go.Proofs.YthnadkagchbhbaaGreat.E
open Go Go.RowKit Go.Proofs
set_option linter.unusedVariables false
set_option linter.unusedSimpArgs false

set_option maxRecDepth 20000 in
set_option maxHeartbeats 2000000 in
theorem c_slices_Clone___impl_Pivot_impl_Pivot_0 (xs : List (Int × Int)) (hn : xs.length ≤ 1048576) : EFn Tryz.prog 92 [.c (.ro (pairs xs))] [] (fun r S => (r = .c (.sl 0 0 xs.length xs.length) ∧ S = [.row 76 2 (pairs xs)]) ∨ (r = .c (.sc (.slice none 0 0)) ∧ S = [] ∧ xs = [])) := by
 refine E_fn Tryz.func92 rfl (Nat.le_of_ble_eq_true rfl) ?_
 refine E_seq ?_
 refine E_region' (L := [0]) rfl ?_
 refine xas ?_
 refine EOps_nil ?_
 refine E_seq ?_
 refine E_seq ?_
 refine E_region' (L := [0, 1]) rfl ?_
 refine xmv ?_
 refine EOps_go rfl rfl (Heavy.op (H_nil rfl rfl (by decide) sl_27 rfl ?_))
 rintro b4 hb4
 refine EOps_nil ?_
 refine E_cond rfl (fun hc4 => ?_) (fun hc4 => ?_)
 ·have he : xs = [] := by
   have h0 := hb4 hc4
   cases xs with
   | nil => rfl
   | cons a l => simp [pairs] at h0
  refine E_seq ?_
  refine E_region' (L := [0]) rfl ?_
  refine xas ?_
  refine EOps_nil ?_
  refine E_ret ?_
  exact ⟨_, [], rfl, rfl, .inr ⟨rfl, rfl, he⟩⟩
 ·refine E_skip ?_
  refine E_seq ?_
  refine E_region' (L := [0, 1, 2, 3]) rfl ?_
  refine EOps_go rfl rfl (Heavy.op (H_bslice rfl rfl (by decide) sl_27 ty_76 za_76 ⟨rfl, by decide⟩ (by decide) rfl rfl rfl rfl ?_))
  refine xmv ?_
  refine EOps_go rfl rfl (EOp_append (news := pairs xs) rfl rfl (by decide) sl_27 ty_76 by_76 za_76 ⟨rfl, by decide⟩ rfl (by first | rfl | assumption) (by first | assumption | exact ints_len _ | exact pairs_len _ | exact quads_len _ | exact quints_len _ | exact bools_len _ | (simp [ints_len, bools_len, pairs_len, quads_len, quints_len, part_len, *]; done) | (simp [ints_len, bools_len, pairs_len, quads_len, quints_len]; omega) | rfl) (by first | (refine lend_whole rfl ?_; first | assumption | exact ints_len _ | exact pairs_len _ | exact quads_len _ | exact quints_len _ | exact bools_len _ | (simp [ints_len, bools_len, pairs_len, quads_len, quints_len, part_len, *]; done) | (simp [ints_len, bools_len, pairs_len, quads_len, quints_len]; omega) | rfl) | rfl | simp [E.lend, lendC]) (by first | exact ints_row _ | exact pairs_row _ | exact quads_row _ | exact quints_row _ | exact bools_row _ | (intro r hr; simp [chunk] at hr; subst hr; exact ⟨rfl, rfl⟩)) (by simp [ints_len, bools_len, pairs_len, quads_len, quints_len, chunk]; omega) ?_)
  refine xas ?_
  refine EOps_nil ?_
  refine E_ret ?_
  refine ⟨_, [0], rfl, rfl, .inl ⟨?_, ?_⟩⟩
  ·simp [AV.ren, ren_sc, ren_ro, AC.ren, AC.ren.rens, ix, rv1, E.get, E.ev, E.cv, E.fill', E.fill, E.slotsOf, pairs_len]
  ·simp [reR, Res.ren, chunk]

theorem c_slices_Clone___impl_Pivot_impl_Pivot_ (xs : List (Int × Int)) (hn : xs.length ≤ 1048576) : EFn Tryz.prog 92 [.c (.ro (pairs xs))] [] (fun r S => r = .c (.sl 0 0 xs.length xs.length) ∧ S = [.row 76 2 (pairs xs)]) :=
 (c_slices_Clone___impl_Pivot_impl_Pivot_0 xs hn).ghost (by
  rintro r S (⟨rfl, rfl⟩ | ⟨rfl, rfl, rfl⟩)
  ·exact .inl ⟨rfl, rfl⟩
  ·exact .inr (.inr ⟨_, .sl 0 0 0 0, [some (76, 2)], rfl, rfl, rfl, rfl, rfl⟩))

end Go.Proofs.YthnadkagchbhbaaGreat.E
