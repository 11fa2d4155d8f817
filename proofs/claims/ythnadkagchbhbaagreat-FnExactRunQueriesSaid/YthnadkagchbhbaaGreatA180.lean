/- Walks through functions, by program out of the session's annotations. -/
import Derived.Test.YthnadkagchbhbaaGreatA44
import Derived.Test.YthnadkagchbhbaaGreatA42
namespace Go.Proofs.YthnadkagchbhbaaGreat.E
open Go Go.RowKit Go.Proofs
set_option linter.unusedVariables false
set_option linter.unusedSimpArgs false

set_option maxRecDepth 20000 in
set_option maxHeartbeats 2000000 in
theorem c_laws_szRangeS (xs : List (Int × Int)) (left : Int) (hl : -1 ≤ left ∧ left ≤ 1048576) : EFn Tryz.prog 4 [.c (.ro (pairs xs)), .c (.sc (.int .i64 left))] [] (fun r S => r = .c (.sc (.int .i64 (szR left xs.length))) ∧ S = []) := by
 refine E_fn Tryz.func4 rfl (Nat.le_of_ble_eq_true rfl) ?_
 refine E_bound (t := 0) (rows := pairs xs) rfl fun hb => ?_
 rw [pairs_len] at hb
 refine E_seq ?_
 refine E_region' (L := [0]) rfl ?_
 refine xas ?_
 refine EOps_nil ?_
 refine E_seq ?_
 refine E_region' (L := [0, 1, 2, 3, 4]) rfl ?_
 refine xmv ?_
 refine xmv ?_
 refine x_pure rfl rfl rfl (l_len rfl sl_25) ?_
 refine x_pure rfl rfl rfl (by first | exact l_sub rfl rfl rfl | exact L_bin rfl rfl rfl rfl) ?_
 refine xas ?_
 refine EOps_nil ?_
 refine E_seq ?_
 refine E_seq ?_
 refine E_region' (L := [0, 1]) rfl ?_
 refine xmv ?_
 refine x_pure rfl rfl rfl (L_bin rfl rfl rfl rfl) ?_
 refine EOps_nil ?_
 refine E_cond rfl (fun hc10 => ?_) (fun hc10 => ?_)
 ·have h1 : left - xs.length < 0 := by simpa [pairs_len] using hc10
  refine E_seq ?_
  refine E_region' (L := [0]) rfl ?_
  refine xas ?_
  refine EOps_nil ?_
  refine E_ret ?_
  refine ⟨_, [], rfl, rfl, int_eq ?_, rfl⟩
  rw [szR, if_pos h1]
 ·have h1 : ¬ left - xs.length < 0 := by simpa [pairs_len] using hc10
  refine E_skip ?_
  refine E_seq ?_
  refine E_region' (L := [0, 1]) rfl ?_
  refine xmv ?_
  refine xas ?_
  refine EOps_nil ?_
  refine E_ret ?_
  refine ⟨_, [], rfl, rfl, int_eq ?_, rfl⟩
  rw [szR, if_neg h1, ← pairs_len]

set_option maxRecDepth 20000 in
set_option maxHeartbeats 2000000 in
theorem c_laws_toRangeS (xs : List (Int × Int)) (hn : xs.length ≤ 1048576) : EFn Tryz.prog 8 [.c (.ro (pairs xs))] [] (fun r S => r = .c (.sl 0 0 xs.length xs.length) ∧ S = [.row 54 2 (pairs xs)]) := by
 refine E_fn Tryz.func8 rfl (Nat.le_of_ble_eq_true rfl) ?_
 refine E_seq ?_
 refine E_region' (L := [0]) rfl ?_
 refine xas ?_
 refine EOps_nil ?_
 refine E_seq ?_
 refine E_region' (L := [0, 1, 2, 3]) rfl ?_
 refine xmv ?_
 refine x_pure rfl rfl rfl (l_len rfl sl_25) ?_
 refine EOps_go rfl rfl (Heavy.op (H_make rfl rfl (by decide) rfl rfl sl_36 ty_54 by_54 za_54 ⟨rfl, by decide⟩ (by simp [pairs_len]; omega) ?_))
 refine xas ?_
 refine EOps_nil ?_
 refine E_seq ?_
 refine E_seq ?_
 refine E_region' (L := [0]) rfl ?_
 refine xas ?_
 refine EOps_nil ?_
 refine E_block ?_
 refine e_for (α := Nat) [0, 2, 3] (fun k => [(4, .c (.sc (.int .i64 (k))))]) (fun k => [.row 54 2 (pairs (part xs (0, 0) k))]) (fun k => k ≤ xs.length) (fun k => xs.length - k) (0) ?_ (by simp [zT, pairs_len, pairs_rep, part_zero]) ⟨.inr rfl, trivial⟩ ?_
 ·simp
 rintro k hI
 refine E_seq ?_
 refine E_seq ?_
 refine E_region' (L := [0, 1, 2, 3]) rfl ?_
 refine xmv ?_
 refine xmv ?_
 refine x_pure rfl rfl rfl (l_len rfl sl_25) ?_
 refine x_pure rfl rfl rfl (L_bin rfl rfl rfl rfl) ?_
 refine EOps_nil ?_
 refine E_cond rfl (fun hc11 => ?_) (fun hc11 => ?_)
 ·have hc11' : k < (xs).length := by simpa [ints_len, bools_len, pairs_len, quads_len, quints_len] using hc11
  obtain ⟨x, hx⟩ : ∃ x, (xs)[k]? = some x := ⟨_, List.getElem?_eq_getElem hc11'⟩
  refine E_skip ?_
  refine E_seq ?_
  refine E_block ?_
  refine E_region' (L := [0, 1, 2, 3, 4, 5, 6, 7, 8]) rfl ?_
  refine xmv ?_
  refine xmv ?_
  refine xmv ?_
  refine xmv ?_
  refine x_pure rfl rfl rfl (L_index rfl rfl (by first | exact i_ro sl_25 ty_56 | exact i_sl sl_25 ty_56)) ?_
  refine x_light rfl rfl rfl (L_load rfl (by first | exact d_bp ty_56 | exact ld_rp ty_56 rfl | exact d_ep ty_56)) ?_
  refine x_call rfl rfl rfl rfl rfl ca_26 (c_laws_toRange x.1 x.2) ?_
  rintro r S ⟨rfl, rfl⟩
  refine x_pure rfl rfl rfl (L_index rfl rfl (by first | exact i_ro sl_36 ty_54 | exact i_sl sl_36 ty_54)) ?_
  refine EOps_go rfl rfl (EOp_store rfl rfl rfl (by first | exact s_bp ty_54 | exact s_ep ty_54) ?_)
  refine EOps_nil ?_
  refine E_region' (L := [0, 1, 2]) rfl ?_
  refine xmv ?_
  refine x_pure rfl rfl rfl (by first | exact l_add rfl rfl rfl | exact L_bin rfl rfl rfl rfl) ?_
  refine xas ?_
  refine EOps_nil ?_
  refine ⟨k + 1, ?_, ?_, by rw [← part_set hx, ← pairs_set]; simp [splice], ⟨.inr rfl, trivial⟩, ⟨.inr rfl, .inr rfl, .inr rfl, trivial⟩⟩
  ·first | omega | (dsimp only; omega) | (simp; omega)
  ·first | trivial | omega | (dsimp only; omega) | (simp; omega)
 ·have hk : xs.length ≤ k := by simpa [pairs_len] using hc11
  refine E_exit ?_
  refine E_seq ?_
  refine E_region' (L := [0, 1]) rfl ?_
  refine xmv ?_
  refine xas ?_
  refine EOps_nil ?_
  refine E_ret ?_
  refine ⟨_, [0], rfl, rfl, ?_, ?_⟩
  ·simp [AV.ren, ren_sc, ren_ro, AC.ren, AC.ren.rens, ix, rv1, E.get, E.ev, E.cv, E.fill', E.fill, E.slotsOf, pairs_len]
  ·simp [reR, Res.ren, part_full xs (0, 0) hk]

set_option maxRecDepth 20000 in
set_option maxHeartbeats 2000000 in
theorem c_laws_eqRange (a b : Int × Int) : EFn Tryz.prog 31 [.agg [.sc (.int .i64 a.1), .sc (.int .i64 a.2)], .agg [.sc (.int .i64 b.1), .sc (.int .i64 b.2)]] [] (fun r S => r = .c (.sc (.bool (decide (a = b)))) ∧ S = []) := by
 refine E_fn Tryz.func31 rfl (Nat.le_of_ble_eq_true rfl) ?_
 obtain ⟨a1, a2⟩ := a
 obtain ⟨b1, b2⟩ := b
 refine E_seq ?_
 refine E_region' (L := [0, 1, 2]) rfl ?_
 refine x_box rfl rfl rfl rfl rfl ?_
 refine x_box rfl rfl rfl rfl rfl ?_
 refine xas ?_
 refine EOps_nil ?_
 refine E_seq ?_
 refine E_seq ?_
 refine E_region' (L := [0, 1, 2, 3, 4]) rfl ?_
 refine x_pure rfl rfl rfl (l_field rfl fo_54_0) ?_
 refine x_light rfl rfl rfl (L_load rfl (by first | exact d_bp ty_3 | exact ld_rp ty_3 rfl | exact d_ep ty_3)) ?_
 refine x_pure rfl rfl rfl (l_field rfl fo_54_0) ?_
 refine x_light rfl rfl rfl (L_load rfl (by first | exact d_bp ty_3 | exact ld_rp ty_3 rfl | exact d_ep ty_3)) ?_
 refine x_pure rfl rfl rfl (L_bin rfl rfl rfl rfl) ?_
 refine EOps_nil ?_
 refine E_cond rfl (fun hc9 => ?_) (fun hc9 => ?_)
 ·refine E_seq ?_
  refine E_region' (L := [0]) rfl ?_
  refine xas ?_
  refine EOps_nil ?_
  refine E_ret ?_
  refine ⟨_, [], rfl, rfl, bool_eq ?_, rfl⟩
  simp_all [tc]
 ·refine E_skip ?_
  refine E_seq ?_
  refine E_seq ?_
  refine E_region' (L := [0, 1, 2, 3, 4]) rfl ?_
  refine x_pure rfl rfl rfl (l_field rfl fo_54_1) ?_
  refine x_light rfl rfl rfl (L_load rfl (by first | exact d_bp ty_3 | exact ld_rp ty_3 rfl | exact d_ep ty_3)) ?_
  refine x_pure rfl rfl rfl (l_field rfl fo_54_1) ?_
  refine x_light rfl rfl rfl (L_load rfl (by first | exact d_bp ty_3 | exact ld_rp ty_3 rfl | exact d_ep ty_3)) ?_
  refine x_pure rfl rfl rfl (L_bin rfl rfl rfl rfl) ?_
  refine EOps_nil ?_
  refine E_cond rfl (fun hc14 => ?_) (fun hc14 => ?_)
  ·refine E_seq ?_
   refine E_region' (L := [0]) rfl ?_
   refine xas ?_
   refine EOps_nil ?_
   refine E_ret ?_
   refine ⟨_, [], rfl, rfl, bool_eq ?_, rfl⟩
   simp_all [tc]
  ·refine E_skip ?_
   refine E_seq ?_
   refine E_region' (L := [0]) rfl ?_
   refine xas ?_
   refine EOps_nil ?_
   refine E_ret ?_
   refine ⟨_, [], rfl, rfl, bool_eq ?_, rfl⟩
   simp_all [tc]

set_option maxRecDepth 20000 in
set_option maxHeartbeats 2000000 in
theorem c_laws_eqRangeS (xs ys : List (Int × Int)) : EFn Tryz.prog 13 [.c (.ro (pairs xs)), .c (.ro (pairs ys))] [] (fun r S => r = .c (.sc (.bool (decide (xs = ys)))) ∧ S = []) := by
 refine E_fn Tryz.func13 rfl (Nat.le_of_ble_eq_true rfl) ?_
 refine E_bound (t := 0) (rows := pairs xs) rfl fun hb => ?_
 rw [pairs_len] at hb
 refine E_seq ?_
 refine E_region' (L := [0]) rfl ?_
 refine xas ?_
 refine EOps_nil ?_
 refine E_seq ?_
 refine E_seq ?_
 refine E_region' (L := [0, 1, 2, 3, 4]) rfl ?_
 refine xmv ?_
 refine x_pure rfl rfl rfl (l_len rfl sl_36) ?_
 refine xmv ?_
 refine x_pure rfl rfl rfl (l_len rfl sl_36) ?_
 refine x_pure rfl rfl rfl (L_bin rfl rfl rfl rfl) ?_
 refine EOps_nil ?_
 refine E_cond rfl (fun hc10 => ?_) (fun hc10 => ?_)
 ·have hne : xs ≠ ys := fun e => by subst e; simp at hc10
  refine E_seq ?_
  refine E_region' (L := [0]) rfl ?_
  refine xas ?_
  refine EOps_nil ?_
  refine E_ret ?_
  refine ⟨_, [], rfl, rfl, ?_, rfl⟩
  simp [AV.ren, ren_sc, ren_ro, AC.ren, AC.ren.rens, ix, rv1, E.get, E.ev, E.cv, E.fill', E.fill, E.slotsOf, hne]
 ·have hlen : xs.length = ys.length := by simp [pairs_len] at hc10; omega
  refine E_skip ?_
  refine E_seq ?_
  refine E_seq ?_
  refine E_region' (L := [0]) rfl ?_
  refine xas ?_
  refine EOps_nil ?_
  refine E_block ?_
  refine e_for (α := Nat) [0, 1, 10] (fun k => [(5, .c (.sc (.int .i64 (k))))]) (fun _ => _) (fun k => k ≤ xs.length ∧ xs.take k = ys.take k) (fun k => xs.length - k) (0) ?_ (rfl) ⟨.inr rfl, trivial⟩ ?_
  ·simp
  rintro k ⟨hk, htk⟩
  refine E_seq ?_
  refine E_seq ?_
  refine E_region' (L := [0, 1, 2, 3]) rfl ?_
  refine xmv ?_
  refine xmv ?_
  refine x_pure rfl rfl rfl (l_len rfl sl_36) ?_
  refine x_pure rfl rfl rfl (L_bin rfl rfl rfl rfl) ?_
  refine EOps_nil ?_
  refine E_cond rfl (fun hc14 => ?_) (fun hc14 => ?_)
  ·have hc14' : k < (xs).length := by simpa [ints_len, bools_len, pairs_len, quads_len, quints_len] using hc14
   obtain ⟨x, hx⟩ : ∃ x, (xs)[k]? = some x := ⟨_, List.getElem?_eq_getElem hc14'⟩
   obtain ⟨y, hy⟩ : ∃ y, ys[k]? = some y := ⟨_, List.getElem?_eq_getElem (hlen ▸ hc14')⟩
   refine E_skip ?_
   refine E_seq ?_
   refine E_block ?_
   refine E_seq ?_
   refine E_drawT mixed ?_
   refine t_old 0 rfl rfl rfl (L_move rfl) ?_
   refine t_old 1 rfl rfl rfl (L_move rfl) ?_
   refine t_old 2 rfl rfl rfl (L_index rfl rfl (by first | exact i_ro sl_36 ty_54 | exact i_sl sl_36 ty_54)) ?_
   refine t_light 3 rfl rfl rfl (L_load rfl (by first | exact d_bp ty_54 | exact ld_rp ty_54 rfl | exact d_ep ty_54)) ?_
   refine t_old 4 rfl rfl rfl (L_move rfl) ?_
   refine t_old 5 rfl rfl rfl (L_move rfl) ?_
   refine t_old 6 rfl rfl rfl (L_index rfl rfl (by first | exact i_ro sl_36 ty_54 | exact i_sl sl_36 ty_54)) ?_
   refine t_light 7 rfl rfl rfl (L_load rfl (by first | exact d_bp ty_54 | exact ld_rp ty_54 rfl | exact d_ep ty_54)) ?_
   refine t_call 8 rfl rfl rfl rfl rfl ca_31 (c_laws_eqRange x y) ?_
   rintro r S ⟨rfl, rfl⟩
   refine t_old 9 rfl rfl rfl (L_not rfl rfl) ?_
   refine T_done (by kernel_rfl) ?_
   refine E_cond rfl (fun hc26 => ?_) (fun hc26 => ?_)
   ·have hne : xs ≠ ys := fun e => by subst e; rw [hx] at hy; cases hy; simp at hc26
    refine E_seq ?_
    refine E_region' (L := [0]) rfl ?_
    refine xas ?_
    refine EOps_nil ?_
    refine E_ret ?_
    refine ⟨_, [], rfl, rfl, ?_, rfl⟩
    simp [AV.ren, ren_sc, ren_ro, AC.ren, AC.ren.rens, ix, rv1, E.get, E.ev, E.cv, E.fill', E.fill, E.slotsOf, hne]
   ·have hxy : x = y := by simpa using hc26
    refine E_skip ?_
    refine E_region' (L := [0, 1, 2]) rfl ?_
    refine xmv ?_
    refine x_pure rfl rfl rfl (by first | exact l_add rfl rfl rfl | exact L_bin rfl rfl rfl rfl) ?_
    refine xas ?_
    refine EOps_nil ?_
    refine ⟨k + 1, ?_, ?_, rfl, ⟨.inr rfl, trivial⟩, ⟨.inr rfl, .inr rfl, .inr rfl, trivial⟩⟩
    ·first | omega | (dsimp only; omega) | (simp; omega)
    ·exact ⟨by omega, by rw [List.take_add_one, List.take_add_one, htk, hx, hy, hxy]⟩
  ·have hk' : xs.length ≤ k := by simpa [pairs_len] using hc14
   have heq : xs = ys := by rw [List.take_of_length_le hk', List.take_of_length_le (by omega)] at htk; exact htk
   refine E_exit ?_
   refine E_seq ?_
   refine E_region' (L := [0]) rfl ?_
   refine xas ?_
   refine EOps_nil ?_
   refine E_ret ?_
   refine ⟨_, [], rfl, rfl, ?_, rfl⟩
   simp [AV.ren, ren_sc, ren_ro, AC.ren, AC.ren.rens, ix, rv1, E.get, E.ev, E.cv, E.fill', E.fill, E.slotsOf, heq]

set_option maxRecDepth 20000 in
set_option maxHeartbeats 2000000 in
theorem c_laws_markRangeS (e n : Nat) (q : Int) (xs : List (Int × Int)) (hn : xs.length = n) (hb : n ≤ 1048576) (hq : 0 ≤ q ∧ q ≤ 1099511627776) : EFn Tryz.prog 15 [.c (.sl 0 0 n n), .c (.sc (.int .i64 q))] [.row e 2 (pairs xs)] (fun r S => r = .c (.sc (.int .i64 (q + 2 * n))) ∧ S = [.row e 2 (pairs (seqP q n))]) := by
 refine E_fn Tryz.func15 rfl (Nat.le_of_ble_eq_true rfl) ?_
 refine E_seq ?_
 refine E_region' (L := [0]) rfl ?_
 refine xas ?_
 refine EOps_nil ?_
 refine E_seq ?_
 refine E_seq ?_
 refine E_region' (L := [0]) rfl ?_
 refine xas ?_
 refine EOps_nil ?_
 refine E_block ?_
 refine e_for (α := Nat) [0, 4] (fun k => [(5, .c (.sc (.int .i64 (k)))), (1, .c (.sc (.int .i64 ((q + 2 * k)))))]) (fun k => [.row e 2 (pairs (seqP q k ++ xs.drop k))]) (fun k => k ≤ n) (fun k => n - k) (0) ?_ (rfl) ⟨.inr rfl, .inr (int_eq (by simp)), trivial⟩ ?_
 ·simp
 rintro k hk
 have hlk : (pairs (seqP q k ++ xs.drop k)).length = n := by simp [pairs_len, seqP_len]; omega
 refine E_seq ?_
 refine E_seq ?_
 refine E_region' (L := [0, 1, 2, 3]) rfl ?_
 refine xmv ?_
 refine xmv ?_
 refine x_pure rfl rfl rfl (l_len rfl sl_36) ?_
 refine x_pure rfl rfl rfl (L_bin rfl rfl rfl rfl) ?_
 refine EOps_nil ?_
 refine E_cond rfl (fun hc9 => ?_) (fun hc9 => ?_)
 ·have hk0 : k < n := by simpa using hc9
  have hk' : k < xs.length := by omega
  obtain ⟨x, hx, hx', hset⟩ := over_at (seqP_len q k) hk'
  refine E_skip ?_
  refine E_seq ?_
  refine E_block ?_
  refine E_seq ?_
  refine E_region' (L := [0, 1, 2, 3, 4, 5]) rfl ?_
  refine xmv ?_
  refine xmv ?_
  refine xmv ?_
  refine x_pure rfl rfl rfl (L_index rfl rfl (by first | exact i_ro sl_36 ty_54 | exact i_sl sl_36 ty_54)) ?_
  refine x_pure rfl rfl rfl (l_field rfl fo_54_0) ?_
  refine EOps_go rfl rfl (EOp_store rfl rfl rfl (by first | exact s_bp ty_3 | exact s_ep ty_3) ?_)
  refine EOps_nil ?_
  refine E_seq ?_
  refine E_region' (L := [0, 1, 2]) rfl ?_
  refine xmv ?_
  refine x_pure rfl rfl rfl (by first | exact l_add rfl rfl rfl | exact L_bin rfl rfl rfl rfl) ?_
  refine xas ?_
  refine EOps_nil ?_
  refine E_seq ?_
  refine E_region' (L := [0, 1, 2, 3, 4, 5]) rfl ?_
  refine xmv ?_
  refine xmv ?_
  refine xmv ?_
  refine x_pure rfl rfl rfl (L_index rfl rfl (by first | exact i_ro sl_36 ty_54 | exact i_sl sl_36 ty_54)) ?_
  refine x_pure rfl rfl rfl (l_field rfl fo_54_1) ?_
  refine EOps_go rfl rfl (EOp_store rfl rfl rfl (by first | exact s_bp ty_3 | exact s_ep ty_3) ?_)
  refine EOps_nil ?_
  refine E_region' (L := [0, 1, 2]) rfl ?_
  refine xmv ?_
  refine x_pure rfl rfl rfl (by first | exact l_add rfl rfl rfl | exact L_bin rfl rfl rfl rfl) ?_
  refine xas ?_
  refine EOps_nil ?_
  refine E_region' (L := [0, 1, 2]) rfl ?_
  refine xmv ?_
  refine x_pure rfl rfl rfl (by first | exact l_add rfl rfl rfl | exact L_bin rfl rfl rfl rfl) ?_
  refine xas ?_
  refine EOps_nil ?_
  refine ⟨k + 1, ?_, ?_, by
 have hs := hset (q + 2 * k, q + 2 * k + 1)
 show [Res.row e 2 _] = [Res.row e 2 (pairs ((seqP q k ++ [(q + 2 * (k : Int), q + 2 * (k : Int) + 1)]) ++ xs.drop (k + 1)))]
 rw [← hs, ← pairs_set]; simp [splice], ⟨.inr rfl, .inr (int_eq (by omega)), trivial⟩, ⟨.inr rfl, .inr rfl, trivial⟩⟩
  ·first | omega | (dsimp only; omega) | (simp; omega)
  ·first | trivial | omega | (dsimp only; omega) | (simp; omega)
 ·have hk1 : n ≤ k := by simpa using hc9
  have hk0 : k = n := by omega
  refine E_exit ?_
  refine E_seq ?_
  refine E_region' (L := [0, 1]) rfl ?_
  refine xmv ?_
  refine xas ?_
  refine EOps_nil ?_
  refine E_ret ?_
  subst hk0
  refine ⟨_, [], rfl, rfl, rfl, ?_⟩
  have hd : xs.drop k = [] := List.drop_of_length_le (by omega)
  have hfin : seqP q k ++ xs.drop k = seqP q k := by rw [hd, List.append_nil]
  rw [hfin]; rfl

end Go.Proofs.YthnadkagchbhbaaGreat.E
