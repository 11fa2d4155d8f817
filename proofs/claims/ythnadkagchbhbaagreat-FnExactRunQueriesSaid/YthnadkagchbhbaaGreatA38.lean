/- Walks through functions, by program out of the session's annotations. -/
import Derived.Test.YthnadkagchbhbaaGreatA37
namespace Go.Proofs.YthnadkagchbhbaaGreat.E
open Go Go.RowKit Go.Proofs
set_option linter.unusedVariables false
set_option linter.unusedSimpArgs false

theorem insPv_len (l : List (Int × Int)) (p : Int × Int) : (insPv l p).length = l.length + 1 := by
 have := cutIx_le l p.1
 simp only [insPv, List.length_append, List.length_take, List.length_drop, List.length_singleton]; omega
theorem map_at1 {l : List (Int × Int)} {k : Nat} {p : Int × Int} (h : l[k]? = some p) : (l.map (·.1))[k]? = some p.1 := by simp [h]
theorem cut_fIdx (l : List (Int × Int)) (v : Int) : (fIdx (fun y => decide (y > v)) (l.map (·.1)) < 0 → cutIx l v = l.length) ∧ (¬ fIdx (fun y => decide (y > v)) (l.map (·.1)) < 0 → fIdx (fun y => decide (y > v)) (l.map (·.1)) = (cutIx l v : Int)) := by
 unfold fIdx
 split
 ·refine ⟨fun h => by omega, fun _ => ?_⟩
  rw [cutIx, List.findIdx_map]; rfl
 ·rename_i h
  refine ⟨fun _ => cutIx_none fun q hq hv => h ?_, fun h' => by omega⟩
  rw [List.any_eq_true]
  exact ⟨q.1, List.mem_map.2 ⟨q, hq, rfl⟩, by simpa using hv⟩

theorem e_tidy_A38_0 {P : Program} {N : Nat} {s : Slots} {R : List Res} {Q : Exit → Slots → List Res → Prop} {c : Code} (keep : List Nat) {base : Slots} {R' : List Res} (h : ECode P N c base R' Q) (hb : keepOf s keep = base := by simp only [E.keepOf, E.get, E.ev, E.cv, E.fill', E.fill, E.slotsOf, Res.sh, AC.sh, AC.sh.shs, AV.sh, E.splice, List.map_cons, List.map_nil, List.cons_append, List.nil_append, List.append_nil, List.length_cons, List.length_nil, List.take_zero, List.drop_zero, List.take_succ_cons, List.drop_succ_cons, List.drop_nil, List.take_nil, List.set_cons_zero, List.set_cons_succ, Nat.zero_add, Nat.add_zero, Nat.reduceAdd, Nat.reduceSub, reduceIte, Nat.reduceEqDiff, E.back, E.backR, E.ix, Res.un, AC.un, AC.un.uns, AV.un, E.un, Option.map_some, Option.map_none, Option.getD_some, List.getElem?_cons_zero, List.getElem?_cons_succ, List.getElem?_nil, crkR, crkO]; rfl) (hR : R = R' := by (try simp only [E.keepOf, E.get, E.ev, E.cv, E.fill', E.fill, E.slotsOf, Res.sh, AC.sh, AC.sh.shs, AV.sh, E.splice, List.map_cons, List.map_nil, List.cons_append, List.nil_append, List.append_nil, List.length_cons, List.length_nil, List.take_zero, List.drop_zero, List.take_succ_cons, List.drop_succ_cons, List.drop_nil, List.take_nil, List.set_cons_zero, List.set_cons_succ, Nat.zero_add, Nat.add_zero, Nat.reduceAdd, Nat.reduceSub, reduceIte, Nat.reduceEqDiff, E.back, E.backR, E.ix, Res.un, AC.un, AC.un.uns, AV.un, E.un, Option.map_some, Option.map_none, Option.getD_some, List.getElem?_cons_zero, List.getElem?_cons_succ, List.getElem?_nil, crkR, crkO]); rfl) : ECode P N c s R Q := E_tidy keep hb hR h

set_option maxRecDepth 20000 in
set_option maxHeartbeats 2000000 in
theorem c_slices_Insert___impl_Pivot_impl_Pivot__end (xs : List (Int × Int)) (p : Int × Int) (hl : xs.length ≤ 1048576) : EFn Tryz.prog 96 [.c (.sl 0 0 xs.length xs.length), .c (.sc (.int .i64 (xs.length : Int))), .c (.sl 1 0 1 1)] [.row 76 2 (pairs xs), .row 76 2 (pairs [p])] (fun r R' => r = .c (.sl 0 0 (xs.length + 1) (xs.length + 1)) ∧ R' = [.row 76 2 (pairs (xs ++ [p])), .row 76 2 (pairs [p])]) := by
 refine E_fnM Tryz.func96 rfl (Nat.le_of_ble_eq_true rfl) ?_
 have hpl : (pairs xs).length = xs.length := pairs_len _
 refine E_seq ?_
 refine E_region' (L := [0]) rfl ?_
 refine xas ?_
 refine EOps_nil ?_
 refine E_seq ?_
 refine E_region' (L := [0, 1, 2]) rfl ?_
 refine xmv ?_
 refine xmv ?_
 refine x_pure rfl rfl rfl (by first | exact L_slice_ro (l := xs.length) (h := xs.length) rfl sl_27 ty_76 rfl rfl rfl (by first | omega | (simp [ints_len, pairs_len, quads_len, quints_len, bools_len]; omega) | (simp [ints_len, pairs_len, quads_len, quints_len, bools_len] at *; omega)) (by first | omega | (simp [ints_len, pairs_len, quads_len, quints_len, bools_len]; omega) | (simp [ints_len, pairs_len, quads_len, quints_len, bools_len] at *; omega)) (by first | exact fun r hr => (ints_row _ r hr).1 | exact fun r hr => (pairs_row _ r hr).1 | exact fun r hr => (quads_row _ r hr).1 | exact fun r hr => (quints_row _ r hr).1 | exact fun r hr => (bools_row _ r hr).1) | exact L_slice_sl (l := xs.length) (h := xs.length) rfl sl_27 ty_76 rfl (by first | rfl | assumption) (by first | assumption | exact ints_len _ | exact pairs_len _ | exact quads_len _ | exact quints_len _ | exact bools_len _ | (simp [ints_len, bools_len, pairs_len, quads_len, quints_len, part_len, *]; done) | (simp [ints_len, bools_len, pairs_len, quads_len, quints_len]; omega) | rfl) rfl rfl (by first | omega | (simp [ints_len, pairs_len, quads_len, quints_len, bools_len]; omega) | (simp [ints_len, pairs_len, quads_len, quints_len, bools_len] at *; omega)) (by first | omega | (simp [ints_len, pairs_len, quads_len, quints_len, bools_len]; omega) | (simp [ints_len, pairs_len, quads_len, quints_len, bools_len] at *; omega))) ?_
 refine EOps_nil ?_
 refine E_seq ?_
 refine E_region' (L := [0, 1, 2]) rfl ?_
 refine xmv ?_
 refine x_pure rfl rfl rfl (l_len rfl sl_27) ?_
 refine xas ?_
 refine EOps_nil ?_
 refine E_seq ?_
 refine E_seq ?_
 refine E_region' (L := [0, 1]) rfl ?_
 refine xmv ?_
 refine x_pure rfl rfl rfl (L_bin rfl rfl rfl rfl) ?_
 refine EOps_nil ?_
 refine E_cond rfl (fun hc16 => ?_) (fun hc16 => ?_)
 ·simp at hc16
 ·refine E_skip ?_
  refine E_seq ?_
  refine E_region' (L := [0, 1, 2]) rfl ?_
  refine xmv ?_
  refine x_pure rfl rfl rfl (l_len rfl sl_27) ?_
  refine xas ?_
  refine EOps_nil ?_
  refine E_seq ?_
  refine E_seq ?_
  refine E_region' (L := [0, 1, 2]) rfl ?_
  refine xmv ?_
  refine xmv ?_
  refine x_pure rfl rfl rfl (L_bin rfl rfl rfl rfl) ?_
  refine EOps_nil ?_
  refine E_cond rfl (fun hc22 => ?_) (fun hc22 => ?_)
  ·refine E_seq ?_
   refine E_region' (L := [0, 1, 2, 3]) rfl ?_
   refine xmv ?_
   refine xmv ?_
   refine EOps_go rfl rfl (EOp_append (news := pairs [p]) rfl rfl (by decide) sl_27 ty_76 by_76 za_76 ⟨rfl, by decide⟩ rfl (by first | rfl | assumption) (by first | assumption | exact ints_len _ | exact pairs_len _ | exact quads_len _ | exact quints_len _ | exact bools_len _ | (simp [ints_len, bools_len, pairs_len, quads_len, quints_len, part_len, *]; done) | (simp [ints_len, bools_len, pairs_len, quads_len, quints_len]; omega) | rfl) (by first | (refine lend_whole rfl ?_; first | assumption | exact ints_len _ | exact pairs_len _ | exact quads_len _ | exact quints_len _ | exact bools_len _ | (simp [ints_len, bools_len, pairs_len, quads_len, quints_len, part_len, *]; done) | (simp [ints_len, bools_len, pairs_len, quads_len, quints_len]; omega) | rfl) | rfl | simp [E.lend, lendC]) (by first | exact ints_row _ | exact pairs_row _ | exact quads_row _ | exact quints_row _ | exact bools_row _ | (intro r hr; simp [chunk] at hr; subst hr; exact ⟨rfl, rfl⟩)) (by simp [ints_len, bools_len, pairs_len, quads_len, quints_len, chunk]; omega) ?_)
   refine xas ?_
   refine EOps_nil ?_
   refine E_ret ?_
   refine ⟨_, rfl, ⟨by simp, fun q cs hq hr h => by
     have : q = 0 ∨ q = 1 := by simp at hq; omega
     rcases this with rfl | rfl <;> (cases h; cases hr)⟩, by simp [AV.ren, ren_sc, ren_ro, AC.ren, AC.ren.rens, ix, rv1, E.get, E.ev, E.cv, E.fill', E.fill, E.slotsOf, pairs_len], by simp [pairs_app]⟩
  ·simp at hc22

set_option maxRecDepth 20000 in
set_option maxHeartbeats 2000000 in
theorem c_slices_IndexFunc___impl_Pivot_impl_Pivot_ (xs : List (Int × Int)) (q : Int → Bool) (f : FuncId) (caps : List AC) (R : List Res) (hf : callable Tryz.prog f = true) (hp : ∀ x ∈ xs, EFn Tryz.prog f (.agg [.sc (.int .i64 x.1), .sc (.int .i64 x.2)] :: caps.map .c) R (fun r R' => r = .c (.sc (.bool (q x.1))) ∧ R' = R)) : EFn Tryz.prog 94 [.c (.ro (pairs xs)), .c (.fn f caps)] R (fun r R' => r = .c (.sc (.int .i64 (fIdx q (xs.map (·.1))))) ∧ R' = R) := by
 refine E_fnS Tryz.func94 rfl (Nat.le_of_ble_eq_true rfl) ?_
 refine E_bound (t := 0) (rows := pairs xs) rfl fun hb => ?_
 rw [pairs_len] at hb
 refine E_seq ?_
 refine E_region' (L := [0]) rfl ?_
 refine xas ?_
 refine EOps_nil ?_
 refine E_seq ?_
 refine E_seq ?_
 refine E_region' (L := [0, 1, 2]) rfl ?_
 refine xmv ?_
 refine x_pure rfl rfl rfl (l_len rfl sl_27) ?_
 refine xmv ?_
 refine EOps_nil ?_
 refine E_block ?_
 refine e_for (α := Nat) [0, 1, 7] (fun k => [(8, .c (.sc (.int .i64 (k)))), (5, .any)]) (fun _ => _) (fun k => k ≤ xs.length ∧ ((xs.map (·.1)).take k).any q = false) (fun k => xs.length - k) (0) ?_ (rfl) ⟨.inr rfl, .inl rfl, trivial⟩ ?_
 ·simp
 rintro k ⟨hk, hany⟩
 refine E_seq ?_
 refine E_region' (L := [0]) rfl ?_
 refine x_pure rfl rfl rfl (L_bin rfl rfl rfl rfl) ?_
 refine EOps_nil ?_
 refine E_seq ?_
 refine E_cond rfl (fun hc9 => ?_) (fun hc9 => ?_)
 ·have hc9' : k < (xs).length := by simpa [ints_len, bools_len, pairs_len, quads_len, quints_len] using hc9
  obtain ⟨x, hx⟩ : ∃ x, (xs)[k]? = some x := ⟨_, List.getElem?_eq_getElem hc9'⟩
  refine E_skip ?_
  refine E_seq ?_
  refine E_block ?_
  refine E_seq ?_
  refine E_region' (L := [0, 1]) rfl ?_
  refine xmv ?_
  refine xas ?_
  refine EOps_nil ?_
  refine E_seq ?_
  refine E_region' (L := [0, 1, 2, 3, 4, 5]) rfl ?_
  refine xmv ?_
  refine xmv ?_
  refine xmv ?_
  refine x_pure rfl rfl rfl (L_index rfl rfl (by first | exact i_ro sl_27 ty_76 | exact i_sl sl_27 ty_76)) ?_
  refine x_light rfl rfl rfl (L_load rfl (by first | exact d_bp ty_76 | exact ld_rp ty_76 rfl | exact d_ep ty_76)) ?_
  refine EOps_go rfl rfl (EOp_call1 rfl rfl (by decide) rfl (by assumption) ((hp x (List.mem_of_getElem? hx))) (by refine cons_eq ?_ (rfl) <;> first | (refine lend_whole rfl ?_; first | assumption | exact ints_len _ | exact pairs_len _ | exact quads_len _ | exact quints_len _ | exact bools_len _ | (simp [ints_len, bools_len, pairs_len, quads_len, quints_len, part_len, *]; done) | (simp [ints_len, bools_len, pairs_len, quads_len, quints_len]; omega) | rfl) | (refine agg_eq ?_; repeat' (first | (refine lendC_whole rfl ?_; first | assumption | exact ints_len _ | exact pairs_len _ | exact quads_len _ | exact quints_len _ | exact bools_len _ | (simp [ints_len, bools_len, pairs_len, quads_len, quints_len, part_len, *]; done) | (simp [ints_len, bools_len, pairs_len, quads_len, quints_len]; omega) | rfl) | refine cons_eq ?_ ?_ | rfl)) | rfl | simp [E.lend, E.lendC, E.ev, E.cv, E.get, E.fill', E.fill, AV.sh, AC.sh, Res.sh, ints_len, *]) ?_)
  rintro r S ⟨rfl, rfl⟩
  refine EOps_nil ?_
  refine E_cond rfl (fun hc16 => ?_) (fun hc16 => ?_)
  ·have he := fIdx_at hany (map_at1 hx) hc16
   refine E_seq ?_
   refine E_region' (L := [0, 1]) rfl ?_
   refine xmv ?_
   refine xas ?_
   refine EOps_nil ?_
   refine E_ret ?_
   refine ⟨_, rfl, rfl, ?_⟩
   first | (simp [AV.ren, ren_sc, ren_ro, AC.ren, AC.ren.rens, ix, rv1, E.get, E.ev, E.cv, E.fill', E.fill, E.slotsOf, *]; done) | simp_all [AV.ren, ren_sc, ren_ro, AC.ren, AC.ren.rens, ix, rv1, E.get, E.ev, E.cv, E.fill', E.fill, E.slotsOf]
  ·refine E_skip ?_
   refine E_region' (L := [0, 1]) rfl ?_
   refine x_pure rfl rfl rfl (by first | exact l_add rfl rfl rfl | exact L_bin rfl rfl rfl rfl) ?_
   refine xmv ?_
   refine EOps_nil ?_
   refine ⟨k + 1, ?_, ?_, rfl, ⟨.inr rfl, .inl rfl, trivial⟩, ⟨.inr rfl, .inr rfl, .inr rfl, trivial⟩⟩
   ·first | omega | (dsimp only; omega) | (simp; omega)
   ·exact ⟨by omega, any_take hany (map_at1 hx) hc16⟩
 ·have hk' : (xs.map (·.1)).length ≤ k := by simpa [pairs_len] using hc9
  rw [List.take_of_length_le hk'] at hany
  have he := fIdx_none hany
  refine E_exit ?_
  refine E_seq ?_
  refine E_region' (L := [0]) rfl ?_
  refine xas ?_
  refine EOps_nil ?_
  refine E_ret ?_
  refine ⟨_, rfl, rfl, ?_⟩
  first | (simp [AV.ren, ren_sc, ren_ro, AC.ren, AC.ren.rens, ix, rv1, E.get, E.ev, E.cv, E.fill', E.fill, E.slotsOf, *]; done) | simp_all [AV.ren, ren_sc, ren_ro, AC.ren, AC.ren.rens, ix, rv1, E.get, E.ev, E.cv, E.fill', E.fill, E.slotsOf]

set_option maxRecDepth 20000 in
set_option maxHeartbeats 2000000 in
theorem c_impl_withPivot_1 (R : List Res) (i : Nat) (a b : Int) (y : Int × Int) (h1 : R[i]? = some (.box [.sc (.int .i64 a), .sc (.int .i64 b)])) : EFn Tryz.prog 95 [.agg [.sc (.int .i64 y.1), .sc (.int .i64 y.2)], .c (.bp i 0)] R (fun r R' => r = .c (.sc (.bool (decide (y.1 > a)))) ∧ R' = R) := by
 refine E_fnM Tryz.func95 rfl (Nat.le_of_ble_eq_true rfl) ?_
 have e1 : (R ++ [Res.box [AC.sc (.int .i64 y.1), AC.sc (.int .i64 y.2)]])[R.length]? = some (.box [AC.sc (.int .i64 y.1), AC.sc (.int .i64 y.2)]) := by simp
 have e2 : (R ++ [Res.box [AC.sc (.int .i64 y.1), AC.sc (.int .i64 y.2)]])[i]? = some (.box [AC.sc (.int .i64 a), AC.sc (.int .i64 b)]) := by
  have hi : i < R.length := (List.getElem?_eq_some_iff.1 h1).1
  rw [List.getElem?_append_left hi]; exact h1
 refine E_seq ?_
 refine E_region' (L := [0, 1]) rfl ?_
 refine x_box rfl rfl rfl rfl rfl ?_
 refine xas ?_
 refine EOps_nil ?_
 refine E_seq ?_
 refine E_region' (L := [0, 1, 2, 3, 4, 5]) rfl ?_
 refine x_pure rfl rfl rfl (l_field rfl fo_76_0 (hp := pb_of e1)) ?_
 refine x_light rfl rfl rfl (L_load rfl (d_bp ty_3 (hR := e1))) ?_
 refine x_pure rfl rfl rfl (l_field rfl fo_76_0 (hp := pb_of e2)) ?_
 refine x_light rfl rfl rfl (L_load rfl (d_bp ty_3 (hR := e2))) ?_
 refine x_pure rfl rfl rfl (L_bin rfl rfl rfl rfl) ?_
 refine xas ?_
 refine EOps_nil ?_
 refine E_ret ?_
 refine ⟨_, rfl, ⟨by simp, fun i cs hi _ h => by rw [List.getElem?_append_left hi] at h; exact h⟩, ?_, by simp⟩
 simp [AV.ren, ren_sc, ren_ro, AC.ren, AC.ren.rens, ix, rv1, E.get, E.ev, E.cv, E.fill', E.fill, E.slotsOf, AV.ren]

theorem c_insert (xs : List (Int × Int)) (k : Nat) (p : Int × Int) (hk : k ≤ xs.length) (hl : xs.length ≤ 1048576) :
  EFn Tryz.prog 96 [.c (.sl 0 0 xs.length xs.length), .c (.sc (.int .i64 (k : Int))), .c (.sl 1 0 1 1)] [.row 76 2 (pairs xs), .row 76 2 (pairs [p])]
   (fun r R' => r = .c (.sl 0 0 (xs.length + 1) (xs.length + 1)) ∧ R' = [.row 76 2 (pairs (xs.take k ++ [p] ++ xs.drop k)), .row 76 2 (pairs [p])]) := by
 rcases Nat.lt_or_ge k xs.length with h | h
 ·exact c_insert_lt xs k p h hl
 ·obtain rfl : k = xs.length := by omega
  have := c_slices_Insert___impl_Pivot_impl_Pivot__end xs p hl
  simpa using this

set_option maxRecDepth 20000 in
set_option maxHeartbeats 2000000 in
theorem c_impl_withPivot (c : Crk) (p : Int × Int) (hb : c.vals.length ≤ 1048576 ∧ c.rows.length ≤ 1048576 ∧ c.piv.length ≤ 1048576) : EFn Tryz.prog 83 [.agg (crkC c), .agg [.sc (.int .i64 p.1), .sc (.int .i64 p.2)]] [] (fun r S => r = .agg (crkO 0 (withPv c p)) ∧ S = crkR 3 76 (withPv c p)) := by
 refine E_fn Tryz.func83 rfl (Nat.le_of_ble_eq_true rfl) ?_
 have hcf := cut_fIdx c.piv p.1
 have hcl := cutIx_le c.piv p.1
 refine E_seq ?_
 refine E_region' (L := [0, 1, 2]) rfl ?_
 refine x_box rfl rfl rfl rfl rfl ?_
 refine x_box rfl rfl rfl rfl rfl ?_
 refine x_alloc rfl rfl rfl rfl za_29 ?_
 refine EOps_nil ?_
 refine E_seq ?_
 refine e_tidy_A38_0 [0, 1, 2, 3, 4] ?_
 refine E_region' (L := [0, 1, 2, 3]) rfl ?_
 refine x_light rfl rfl rfl (L_load rfl (by first | exact d_bp ty_29 | exact ld_rp ty_29 rfl | exact d_ep ty_29)) ?_
 refine x_call rfl rfl rfl rfl rfl ca_80 (c_impl_copyCracker c hb) ?_
 rintro r S ⟨rfl, rfl⟩
 refine x_alloc rfl rfl rfl rfl za_29 ?_
 refine EOps_go rfl rfl (EOp_store rfl rfl rfl (by first | exact s_bp ty_29 | exact s_ep ty_29) ?_)
 refine EOps_nil ?_
 refine E_seq ?_
 refine e_tidy_A38_0 [0, 1, 2, 3, 4, 5] ?_
 refine E_region' (L := [0, 1, 2, 3, 4]) rfl ?_
 refine x_pure rfl rfl rfl (l_field rfl fo_29_2) ?_
 refine x_light rfl rfl rfl (L_load rfl (by first | exact d_bp ty_27 | exact ld_rp ty_27 rfl | exact d_ep ty_27)) ?_
 refine x_pure rfl rfl rfl (L_func rfl rfl) ?_
 refine x_frame [1] rfl rfl rfl rfl rfl ca_94 rfl (c_slices_IndexFunc___impl_Pivot_impl_Pivot_ c.piv (fun y => decide (y > p.1)) 95 [.bp 0 0] _ ca_95 (fun y _ => c_impl_withPivot_1 _ 0 p.1 p.2 y rfl)) ?_
 rintro r S ⟨r0, S0, ⟨rfl, rfl⟩, rfl, rfl⟩
 refine xas ?_
 refine EOps_nil ?_
 refine E_seq ?_
 refine E_seq ?_
 refine E_region' (L := [0, 1]) rfl ?_
 refine xmv ?_
 refine x_pure rfl rfl rfl (L_bin rfl rfl rfl rfl) ?_
 refine EOps_nil ?_
 refine E_cond rfl (fun hc14 => ?_) (fun hc14 => ?_)
 ·have hkt : ((cutIx c.piv p.1 : Nat) : Int) = (c.piv.length : Int) := by rw [hcf.1 (by simpa using hc14)]
  refine E_region' (L := [0, 1, 2, 3]) rfl ?_
  refine x_pure rfl rfl rfl (l_field rfl fo_29_2) ?_
  refine x_light rfl rfl rfl (L_load rfl (by first | exact d_bp ty_27 | exact ld_rp ty_27 rfl | exact d_ep ty_27)) ?_
  refine x_pure rfl rfl rfl (l_len rfl sl_27) ?_
  refine xas ?_
  refine EOps_nil ?_
  refine E_seq ?_
  refine e_tidy_A38_0 [0, 1, 2, 3, 4, 5, 6, 14] ?_
  refine E_region' (L := [0, 1, 2, 3, 4, 5, 6, 7]) rfl ?_
  try rw [← hkt]
  refine x_pure rfl rfl rfl (l_field rfl fo_29_2) ?_
  refine x_light rfl rfl rfl (L_load rfl (by first | exact d_bp ty_27 | exact ld_rp ty_27 rfl | exact d_ep ty_27)) ?_
  refine xmv ?_
  refine x_light rfl rfl rfl (L_load rfl (by first | exact d_bp ty_76 | exact ld_rp ty_76 rfl | exact d_ep ty_76)) ?_
  refine EOps_go rfl rfl (Heavy.op (H_bslice rfl rfl (by decide) sl_27 ty_76 za_76 ⟨rfl, by decide⟩ (by decide) rfl rfl rfl rfl ?_))
  refine x_frame [5, 7] rfl rfl rfl rfl rfl ca_96 rfl (c_insert c.piv (cutIx c.piv p.1) p hcl hb.2.2) ?_
  rintro r S ⟨r0, S0, ⟨rfl, rfl⟩, rfl, rfl⟩
  refine x_pure rfl rfl rfl (l_field rfl fo_29_2) ?_
  refine EOps_go rfl rfl (EOp_store rfl rfl rfl (by first | exact s_bp ty_27 | exact s_ep ty_27) ?_)
  refine EOps_nil ?_
  refine E_seq ?_
  refine E_region' (L := [0, 1]) rfl ?_
  refine x_light rfl rfl rfl (L_load rfl (by first | exact d_bp ty_29 | exact ld_rp ty_29 rfl | exact d_ep ty_29)) ?_
  refine EOps_go rfl rfl (EOp_store rfl rfl rfl (by first | exact s_bp ty_29 | exact s_ep ty_29) ?_)
  refine EOps_nil ?_
  refine E_ret ?_
  refine ⟨_, [3, 4, 5], rfl, rfl, ?_, ?_⟩
  ·simp only [crkO, withPv, insPv_len]; rfl
  ·rfl
 ·rw [hcf.2 (by simpa using hc14)]
  refine E_skip ?_
  refine E_seq ?_
  refine e_tidy_A38_0 [0, 1, 2, 3, 4, 5, 6, 14] ?_
  refine E_region' (L := [0, 1, 2, 3, 4, 5, 6, 7]) rfl ?_
  try rw [← hkt]
  refine x_pure rfl rfl rfl (l_field rfl fo_29_2) ?_
  refine x_light rfl rfl rfl (L_load rfl (by first | exact d_bp ty_27 | exact ld_rp ty_27 rfl | exact d_ep ty_27)) ?_
  refine xmv ?_
  refine x_light rfl rfl rfl (L_load rfl (by first | exact d_bp ty_76 | exact ld_rp ty_76 rfl | exact d_ep ty_76)) ?_
  refine EOps_go rfl rfl (Heavy.op (H_bslice rfl rfl (by decide) sl_27 ty_76 za_76 ⟨rfl, by decide⟩ (by decide) rfl rfl rfl rfl ?_))
  refine x_frame [5, 7] rfl rfl rfl rfl rfl ca_96 rfl (c_insert c.piv (cutIx c.piv p.1) p hcl hb.2.2) ?_
  rintro r S ⟨r0, S0, ⟨rfl, rfl⟩, rfl, rfl⟩
  refine x_pure rfl rfl rfl (l_field rfl fo_29_2) ?_
  refine EOps_go rfl rfl (EOp_store rfl rfl rfl (by first | exact s_bp ty_27 | exact s_ep ty_27) ?_)
  refine EOps_nil ?_
  refine E_seq ?_
  refine E_region' (L := [0, 1]) rfl ?_
  refine x_light rfl rfl rfl (L_load rfl (by first | exact d_bp ty_29 | exact ld_rp ty_29 rfl | exact d_ep ty_29)) ?_
  refine EOps_go rfl rfl (EOp_store rfl rfl rfl (by first | exact s_bp ty_29 | exact s_ep ty_29) ?_)
  refine EOps_nil ?_
  refine E_ret ?_
  refine ⟨_, [3, 4, 5], rfl, rfl, ?_, ?_⟩
  ·simp only [crkO, withPv, insPv_len]; rfl
  ·rfl

end Go.Proofs.YthnadkagchbhbaaGreat.E
