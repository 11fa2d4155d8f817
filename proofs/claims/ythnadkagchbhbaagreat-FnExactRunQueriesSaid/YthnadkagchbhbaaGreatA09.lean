/- Walks through functions, by program out of the session's annotations. -/
import Derived.Test.YthnadkagchbhbaaGreatA08
namespace Go.Proofs.YthnadkagchbhbaaGreat.E
open Go Go.RowKit Go.Proofs
set_option linter.unusedVariables false
set_option linter.unusedSimpArgs false

set_option maxRecDepth 20000 in
set_option maxHeartbeats 2000000 in
theorem c_laws_markIntS (e n : Nat) (q : Int) (xs : List Int) (hn : xs.length = n) (hb : n ≤ 1048576) (hq : 0 ≤ q ∧ q ≤ 1099511627776) : EFn Tryz.prog 14 [.c (.sl 0 0 n n), .c (.sc (.int .i64 q))] [.row e 1 (ints xs)] (fun r S => r = .c (.sc (.int .i64 (q + n))) ∧ S = [.row e 1 (ints (seqF q n))]) := by
 refine E_fn Tryz.func14 rfl (Nat.le_of_ble_eq_true rfl) ?_
 refine E_seq ?_
 refine E_region' (L := [0]) rfl ?_
 refine xas ?_
 refine EOps_nil ?_
 refine E_seq ?_
 refine E_seq ?_
 refine E_region' (L := [0]) rfl ?_
 refine xas ?_
 refine EOps_nil ?_
 refine E_block ?_
 refine e_for (α := Nat) [0, 4] (fun k => [(5, .c (.sc (.int .i64 (k)))), (1, .c (.sc (.int .i64 ((q + k)))))]) (fun k => [.row e 1 (ints (seqF q k ++ xs.drop k))]) (fun k => k ≤ n) (fun k => n - k) (0) ?_ (rfl) ⟨.inr rfl, .inr (int_eq (by simp)), trivial⟩ ?_
 ·simp
 rintro k hk
 have hlk : (ints (seqF q k ++ xs.drop k)).length = n := by simp [ints_len, seqF_len]; omega
 refine E_seq ?_
 refine E_seq ?_
 refine E_region' (L := [0, 1, 2, 3]) rfl ?_
 refine xmv ?_
 refine xmv ?_
 refine x_pure rfl rfl rfl (l_len rfl sl_22) ?_
 refine x_pure rfl rfl rfl (L_bin rfl rfl rfl rfl) ?_
 refine EOps_nil ?_
 refine E_cond rfl (fun hc9 => ?_) (fun hc9 => ?_)
 ·have hk0 : k < n := by simpa using hc9
  have hk' : k < xs.length := by omega
  obtain ⟨x, hx, hx', hset⟩ := over_at (seqF_len q k) hk'
  refine E_skip ?_
  refine E_seq ?_
  refine E_block ?_
  refine E_seq ?_
  refine E_region' (L := [0, 1, 2, 3, 4]) rfl ?_
  refine xmv ?_
  refine xmv ?_
  refine xmv ?_
  refine x_pure rfl rfl rfl (L_index rfl rfl (by first | exact i_ro sl_22 ty_3 | exact i_sl sl_22 ty_3)) ?_
  refine EOps_go rfl rfl (EOp_store rfl rfl rfl (by first | exact s_bp ty_3 | exact s_ep ty_3) ?_)
  refine EOps_nil ?_
  refine E_region' (L := [0, 1, 2]) rfl ?_
  refine xmv ?_
  refine x_pure rfl rfl rfl (by first | exact l_add rfl rfl rfl | exact L_bin rfl rfl rfl rfl) ?_
  refine xas ?_
  refine EOps_nil ?_
  refine E_region' (L := [0, 1, 2]) rfl ?_
  refine xmv ?_
  refine x_pure rfl rfl rfl (by first | exact l_add rfl rfl rfl | exact L_bin rfl rfl rfl rfl) ?_
  refine xas ?_
  refine EOps_nil ?_
  refine ⟨k + 1, ?_, ?_, by
 have hs := hset (q + k)
 show [Res.row e 1 _] = [Res.row e 1 (ints ((seqF q k ++ [q + (k : Int)]) ++ xs.drop (k + 1)))]
 rw [← hs, ← ints_set]; simp [splice], ⟨.inr rfl, .inr (int_eq (by omega)), trivial⟩, ⟨.inr rfl, .inr rfl, trivial⟩⟩
  ·first | omega | (dsimp only; omega) | (simp; omega)
  ·first | trivial | omega | (dsimp only; omega) | (simp; omega)
 ·have hk1 : n ≤ k := by simpa using hc9
  have hk0 : k = n := by omega
  refine E_exit ?_
  refine E_seq ?_
  refine E_region' (L := [0, 1]) rfl ?_
  refine xmv ?_
  refine xas ?_
  refine EOps_nil ?_
  refine E_ret ?_
  subst hk0
  refine ⟨_, [], rfl, rfl, rfl, ?_⟩
  have hd : xs.drop k = [] := List.drop_of_length_le (by omega)
  have hfin : seqF q k ++ xs.drop k = seqF q k := by rw [hd, List.append_nil]
  rw [hfin]; rfl

set_option maxRecDepth 20000 in
set_option maxHeartbeats 2000000 in
theorem c_laws_markPivotS (e n : Nat) (q : Int) (xs : List (Int × Int)) (hn : xs.length = n) (hb : n ≤ 1048576) (hq : 0 ≤ q ∧ q ≤ 1099511627776) : EFn Tryz.prog 32 [.c (.sl 0 0 n n), .c (.sc (.int .i64 q))] [.row e 2 (pairs xs)] (fun r S => r = .c (.sc (.int .i64 (q + 2 * n))) ∧ S = [.row e 2 (pairs (seqP q n))]) := by
 refine E_fn Tryz.func32 rfl (Nat.le_of_ble_eq_true rfl) ?_
 refine E_seq ?_
 refine E_region' (L := [0]) rfl ?_
 refine xas ?_
 refine EOps_nil ?_
 refine E_seq ?_
 refine E_seq ?_
 refine E_region' (L := [0]) rfl ?_
 refine xas ?_
 refine EOps_nil ?_
 refine E_block ?_
 refine e_for (α := Nat) [0, 4] (fun k => [(5, .c (.sc (.int .i64 (k)))), (1, .c (.sc (.int .i64 ((q + 2 * k)))))]) (fun k => [.row e 2 (pairs (seqP q k ++ xs.drop k))]) (fun k => k ≤ n) (fun k => n - k) (0) ?_ (rfl) ⟨.inr rfl, .inr (int_eq (by simp)), trivial⟩ ?_
 ·simp
 rintro k hk
 have hlk : (pairs (seqP q k ++ xs.drop k)).length = n := by simp [pairs_len, seqP_len]; omega
 refine E_seq ?_
 refine E_seq ?_
 refine E_region' (L := [0, 1, 2, 3]) rfl ?_
 refine xmv ?_
 refine xmv ?_
 refine x_pure rfl rfl rfl (l_len rfl sl_27) ?_
 refine x_pure rfl rfl rfl (L_bin rfl rfl rfl rfl) ?_
 refine EOps_nil ?_
 refine E_cond rfl (fun hc9 => ?_) (fun hc9 => ?_)
 ·have hk0 : k < n := by simpa using hc9
  have hk' : k < xs.length := by omega
  obtain ⟨x, hx, hx', hset⟩ := over_at (seqP_len q k) hk'
  refine E_skip ?_
  refine E_seq ?_
  refine E_block ?_
  refine E_seq ?_
  refine E_region' (L := [0, 1, 2, 3, 4, 5]) rfl ?_
  refine xmv ?_
  refine xmv ?_
  refine xmv ?_
  refine x_pure rfl rfl rfl (L_index rfl rfl (by first | exact i_ro sl_27 ty_76 | exact i_sl sl_27 ty_76)) ?_
  refine x_pure rfl rfl rfl (l_field rfl fo_76_0) ?_
  refine EOps_go rfl rfl (EOp_store rfl rfl rfl (by first | exact s_bp ty_3 | exact s_ep ty_3) ?_)
  refine EOps_nil ?_
  refine E_seq ?_
  refine E_region' (L := [0, 1, 2]) rfl ?_
  refine xmv ?_
  refine x_pure rfl rfl rfl (by first | exact l_add rfl rfl rfl | exact L_bin rfl rfl rfl rfl) ?_
  refine xas ?_
  refine EOps_nil ?_
  refine E_seq ?_
  refine E_region' (L := [0, 1, 2, 3, 4, 5]) rfl ?_
  refine xmv ?_
  refine xmv ?_
  refine xmv ?_
  refine x_pure rfl rfl rfl (L_index rfl rfl (by first | exact i_ro sl_27 ty_76 | exact i_sl sl_27 ty_76)) ?_
  refine x_pure rfl rfl rfl (l_field rfl fo_76_1) ?_
  refine EOps_go rfl rfl (EOp_store rfl rfl rfl (by first | exact s_bp ty_3 | exact s_ep ty_3) ?_)
  refine EOps_nil ?_
  refine E_region' (L := [0, 1, 2]) rfl ?_
  refine xmv ?_
  refine x_pure rfl rfl rfl (by first | exact l_add rfl rfl rfl | exact L_bin rfl rfl rfl rfl) ?_
  refine xas ?_
  refine EOps_nil ?_
  refine E_region' (L := [0, 1, 2]) rfl ?_
  refine xmv ?_
  refine x_pure rfl rfl rfl (by first | exact l_add rfl rfl rfl | exact L_bin rfl rfl rfl rfl) ?_
  refine xas ?_
  refine EOps_nil ?_
  refine ⟨k + 1, ?_, ?_, by
 have hs := hset (q + 2 * k, q + 2 * k + 1)
 show [Res.row e 2 _] = [Res.row e 2 (pairs ((seqP q k ++ [(q + 2 * (k : Int), q + 2 * (k : Int) + 1)]) ++ xs.drop (k + 1)))]
 rw [← hs, ← pairs_set]; simp [splice], ⟨.inr rfl, .inr (int_eq (by omega)), trivial⟩, ⟨.inr rfl, .inr rfl, trivial⟩⟩
  ·first | omega | (dsimp only; omega) | (simp; omega)
  ·first | trivial | omega | (dsimp only; omega) | (simp; omega)
 ·have hk1 : n ≤ k := by simpa using hc9
  have hk0 : k = n := by omega
  refine E_exit ?_
  refine E_seq ?_
  refine E_region' (L := [0, 1]) rfl ?_
  refine xmv ?_
  refine xas ?_
  refine EOps_nil ?_
  refine E_ret ?_
  subst hk0
  refine ⟨_, [], rfl, rfl, rfl, ?_⟩
  have hd : xs.drop k = [] := List.drop_of_length_le (by omega)
  have hfin : seqP q k ++ xs.drop k = seqP q k := by rw [hd, List.append_nil]
  rw [hfin]; rfl

set_option maxRecDepth 20000 in
set_option maxHeartbeats 2000000 in
theorem c_laws_heldIntS (n : Nat) (q : Int) (hb : n ≤ 1048576) (hq : 0 ≤ q ∧ q ≤ 1099511627776) : EFn Tryz.prog 20 [.c (.ro (ints (seqF q n))), .c (.sc (.int .i64 q))] [] (fun r S => r = .c (.sc (.int .i64 (q + n))) ∧ S = []) := by
 refine E_fn Tryz.func20 rfl (Nat.le_of_ble_eq_true rfl) ?_
 refine E_seq ?_
 refine E_region' (L := [0]) rfl ?_
 refine xas ?_
 refine EOps_nil ?_
 refine E_seq ?_
 refine E_seq ?_
 refine E_region' (L := [0]) rfl ?_
 refine xas ?_
 refine EOps_nil ?_
 refine E_block ?_
 refine e_for (α := Nat) [0] (fun k => [(5, .c (.sc (.int .i64 (k)))), (1, .c (.sc (.int .i64 ((q + k)))))]) (fun _ => _) (fun k => k ≤ n) (fun k => n - k) (0) ?_ (rfl) ⟨.inr rfl, .inr (int_eq (by simp)), trivial⟩ ?_
 ·simp
 rintro k hk
 refine E_seq ?_
 refine E_seq ?_
 refine E_region' (L := [0, 1, 2, 3]) rfl ?_
 refine xmv ?_
 refine xmv ?_
 refine x_pure rfl rfl rfl (l_len rfl sl_22) ?_
 refine x_pure rfl rfl rfl (L_bin rfl rfl rfl rfl) ?_
 refine EOps_nil ?_
 refine E_cond rfl (fun hc9 => ?_) (fun hc9 => ?_)
 ·have hk' : k < n := by simpa [ints_len, seqF_len] using hc9
  have hx := seqF_at q n k hk'
  refine E_skip ?_
  refine E_seq ?_
  refine E_block ?_
  refine E_seq ?_
  refine E_seq ?_
  refine E_region' (L := [0, 1, 2, 3, 4, 5]) rfl ?_
  refine xmv ?_
  refine xmv ?_
  refine x_pure rfl rfl rfl (L_index rfl rfl (by first | exact i_ro sl_22 ty_3 | exact i_sl sl_22 ty_3)) ?_
  refine x_light rfl rfl rfl (L_load rfl (by first | exact d_bp ty_3 | exact ld_rp ty_3 rfl | exact d_ep ty_3)) ?_
  refine xmv ?_
  refine x_pure rfl rfl rfl (L_bin rfl rfl rfl rfl) ?_
  refine EOps_nil ?_
  refine E_cond rfl (fun hc17 => ?_) (fun hc17 => ?_)
  ·simp at hc17
  ·refine E_skip ?_
   refine E_region' (L := [0, 1, 2]) rfl ?_
   refine xmv ?_
   refine x_pure rfl rfl rfl (by first | exact l_add rfl rfl rfl | exact L_bin rfl rfl rfl rfl) ?_
   refine xas ?_
   refine EOps_nil ?_
   refine E_region' (L := [0, 1, 2]) rfl ?_
   refine xmv ?_
   refine x_pure rfl rfl rfl (by first | exact l_add rfl rfl rfl | exact L_bin rfl rfl rfl rfl) ?_
   refine xas ?_
   refine EOps_nil ?_
   refine ⟨k + 1, ?_, ?_, rfl, ⟨.inr rfl, .inr (int_eq (by omega)), trivial⟩, ⟨.inr rfl, trivial⟩⟩
   ·first | omega | (dsimp only; omega) | (simp; omega)
   ·first | trivial | omega | (dsimp only; omega) | (simp; omega)
 ·have hk1 : n ≤ k := by simpa [ints_len, seqF_len] using hc9
  have hk0 : k = n := by omega
  refine E_exit ?_
  refine E_seq ?_
  refine E_region' (L := [0, 1]) rfl ?_
  refine xmv ?_
  refine xas ?_
  refine EOps_nil ?_
  refine E_ret ?_
  subst hk0
  exact ⟨_, [], rfl, rfl, rfl, rfl⟩

set_option maxRecDepth 20000 in
set_option maxHeartbeats 2000000 in
theorem c_laws_heldPivotS (n : Nat) (q : Int) (hb : n ≤ 1048576) (hq : 0 ≤ q ∧ q ≤ 1099511627776) : EFn Tryz.prog 33 [.c (.ro (pairs (seqP q n))), .c (.sc (.int .i64 q))] [] (fun r S => r = .c (.sc (.int .i64 (q + 2 * n))) ∧ S = []) := by
 refine E_fn Tryz.func33 rfl (Nat.le_of_ble_eq_true rfl) ?_
 refine E_seq ?_
 refine E_region' (L := [0]) rfl ?_
 refine xas ?_
 refine EOps_nil ?_
 refine E_seq ?_
 refine E_seq ?_
 refine E_region' (L := [0]) rfl ?_
 refine xas ?_
 refine EOps_nil ?_
 refine E_block ?_
 refine e_for (α := Nat) [0] (fun k => [(5, .c (.sc (.int .i64 (k)))), (1, .c (.sc (.int .i64 ((q + 2 * k)))))]) (fun _ => _) (fun k => k ≤ n) (fun k => n - k) (0) ?_ (rfl) ⟨.inr rfl, .inr (int_eq (by simp)), trivial⟩ ?_
 ·simp
 rintro k hk
 refine E_seq ?_
 refine E_seq ?_
 refine E_region' (L := [0, 1, 2, 3]) rfl ?_
 refine xmv ?_
 refine xmv ?_
 refine x_pure rfl rfl rfl (l_len rfl sl_27) ?_
 refine x_pure rfl rfl rfl (L_bin rfl rfl rfl rfl) ?_
 refine EOps_nil ?_
 refine E_cond rfl (fun hc9 => ?_) (fun hc9 => ?_)
 ·have hk' : k < n := by simpa [pairs_len, seqP_len] using hc9
  have hx := seqP_at q n k hk'
  refine E_skip ?_
  refine E_seq ?_
  refine E_block ?_
  refine E_seq ?_
  refine E_seq ?_
  refine E_region' (L := [0, 1, 2, 3, 4, 5, 6]) rfl ?_
  refine xmv ?_
  refine xmv ?_
  refine x_pure rfl rfl rfl (L_index rfl rfl (by first | exact i_ro sl_27 ty_76 | exact i_sl sl_27 ty_76)) ?_
  refine x_pure rfl rfl rfl (l_field rfl fo_76_0) ?_
  refine x_light rfl rfl rfl (L_load rfl (by first | exact d_bp ty_3 | exact ld_rp ty_3 rfl | exact d_ep ty_3)) ?_
  refine xmv ?_
  refine x_pure rfl rfl rfl (L_bin rfl rfl rfl rfl) ?_
  refine EOps_nil ?_
  refine E_cond rfl (fun hc18 => ?_) (fun hc18 => ?_)
  ·simp at hc18
  ·refine E_skip ?_
   refine E_seq ?_
   refine E_region' (L := [0, 1, 2]) rfl ?_
   refine xmv ?_
   refine x_pure rfl rfl rfl (by first | exact l_add rfl rfl rfl | exact L_bin rfl rfl rfl rfl) ?_
   refine xas ?_
   refine EOps_nil ?_
   refine E_seq ?_
   refine E_seq ?_
   refine E_region' (L := [0, 1, 2, 3, 4, 5, 6]) rfl ?_
   refine xmv ?_
   refine xmv ?_
   refine x_pure rfl rfl rfl (L_index rfl rfl (by first | exact i_ro sl_27 ty_76 | exact i_sl sl_27 ty_76)) ?_
   refine x_pure rfl rfl rfl (l_field rfl fo_76_1) ?_
   refine x_light rfl rfl rfl (L_load rfl (by first | exact d_bp ty_3 | exact ld_rp ty_3 rfl | exact d_ep ty_3)) ?_
   refine xmv ?_
   refine x_pure rfl rfl rfl (L_bin rfl rfl rfl rfl) ?_
   refine EOps_nil ?_
   refine E_cond rfl (fun hc27 => ?_) (fun hc27 => ?_)
   ·simp at hc27
   ·refine E_skip ?_
    refine E_region' (L := [0, 1, 2]) rfl ?_
    refine xmv ?_
    refine x_pure rfl rfl rfl (by first | exact l_add rfl rfl rfl | exact L_bin rfl rfl rfl rfl) ?_
    refine xas ?_
    refine EOps_nil ?_
    refine E_region' (L := [0, 1, 2]) rfl ?_
    refine xmv ?_
    refine x_pure rfl rfl rfl (by first | exact l_add rfl rfl rfl | exact L_bin rfl rfl rfl rfl) ?_
    refine xas ?_
    refine EOps_nil ?_
    refine ⟨k + 1, ?_, ?_, rfl, ⟨.inr rfl, .inr (int_eq (by omega)), trivial⟩, ⟨.inr rfl, trivial⟩⟩
    ·first | omega | (dsimp only; omega) | (simp; omega)
    ·first | trivial | omega | (dsimp only; omega) | (simp; omega)
 ·have hk1 : n ≤ k := by simpa [pairs_len, seqP_len] using hc9
  have hk0 : k = n := by omega
  refine E_exit ?_
  refine E_seq ?_
  refine E_region' (L := [0, 1]) rfl ?_
  refine xmv ?_
  refine xas ?_
  refine EOps_nil ?_
  refine E_ret ?_
  subst hk0
  exact ⟨_, [], rfl, rfl, rfl, rfl⟩

set_option maxRecDepth 20000 in
set_option maxHeartbeats 2000000 in
theorem c_laws_markCracker (e0 e1 e2 : Nat) (q : Int) (c : Crk) (n0 n1 n2 : Nat) (h0 : c.vals.length = n0) (h1 : c.rows.length = n1) (h2 : c.piv.length = n2) (hb : n0 ≤ 1048576 ∧ n1 ≤ 1048576 ∧ n2 ≤ 1048576) (hq : 0 ≤ q ∧ q ≤ 1000000000000) : EFn Tryz.prog 16 [.agg [.sl 0 0 n0 n0, .sl 1 0 n1 n1, .sl 2 0 n2 n2], .c (.sc (.int .i64 q))] [.row e0 1 (ints c.vals), .row e1 1 (ints c.rows), .row e2 2 (pairs c.piv)] (fun r S => r = .c (.sc (.int .i64 (q + n0 + n1 + 2 * n2))) ∧ S = [.row e0 1 (ints (seqF q n0)), .row e1 1 (ints (seqF (q + n0) n1)), .row e2 2 (pairs (seqP (q + n0 + n1) n2))]) := by
 refine E_fn Tryz.func16 rfl (Nat.le_of_ble_eq_true rfl) ?_
 refine E_seq ?_
 refine E_region' (L := [0, 1]) rfl ?_
 refine x_box rfl rfl rfl rfl rfl ?_
 refine xas ?_
 refine EOps_nil ?_
 refine E_seq ?_
 refine e_tidy [0, 1, 2, 4] ?_
 refine E_region' (L := [0, 1, 2, 3, 4]) rfl ?_
 refine x_pure rfl rfl rfl (l_field rfl fo_29_0) ?_
 refine x_light rfl rfl rfl (L_load rfl (by first | exact d_bp ty_22 | exact ld_rp ty_22 rfl | exact d_ep ty_22)) ?_
 refine xmv ?_
 refine x_frame [0] rfl rfl rfl rfl rfl ca_14 rfl (c_laws_markIntS e0 n0 q c.vals h0 hb.1 (by omega)) ?_
 rintro r S ⟨r0, S0, ⟨rfl, rfl⟩, rfl, rfl⟩
 refine xas ?_
 refine EOps_nil ?_
 refine E_seq ?_
 refine e_tidy [0, 1, 2, 4] ?_
 refine E_region' (L := [0, 1, 2, 3, 4]) rfl ?_
 refine x_pure rfl rfl rfl (l_field rfl fo_29_1) ?_
 refine x_light rfl rfl rfl (L_load rfl (by first | exact d_bp ty_22 | exact ld_rp ty_22 rfl | exact d_ep ty_22)) ?_
 refine xmv ?_
 refine x_frame [1] rfl rfl rfl rfl rfl ca_14 rfl (c_laws_markIntS e1 n1 (q + n0) c.rows h1 hb.2.1 (by omega)) ?_
 rintro r S ⟨r0, S0, ⟨rfl, rfl⟩, rfl, rfl⟩
 refine xas ?_
 refine EOps_nil ?_
 refine E_seq ?_
 refine e_tidy [0, 1, 2, 4] ?_
 refine E_region' (L := [0, 1, 2, 3, 4]) rfl ?_
 refine x_pure rfl rfl rfl (l_field rfl fo_29_2) ?_
 refine x_light rfl rfl rfl (L_load rfl (by first | exact d_bp ty_27 | exact ld_rp ty_27 rfl | exact d_ep ty_27)) ?_
 refine xmv ?_
 refine x_frame [2] rfl rfl rfl rfl rfl ca_32 rfl (c_laws_markPivotS e2 n2 (q + n0 + n1) c.piv h2 hb.2.2 (by omega)) ?_
 rintro r S ⟨r0, S0, ⟨rfl, rfl⟩, rfl, rfl⟩
 refine xas ?_
 refine EOps_nil ?_
 refine E_seq ?_
 refine E_region' (L := [0, 1]) rfl ?_
 refine xmv ?_
 refine xas ?_
 refine EOps_nil ?_
 refine E_ret ?_
 exact ⟨_, [], rfl, rfl, rfl, rfl⟩

set_option maxRecDepth 20000 in
set_option maxHeartbeats 2000000 in
theorem c_laws_heldCracker (q : Int) (n0 n1 n2 : Nat) (hb : n0 ≤ 1048576 ∧ n1 ≤ 1048576 ∧ n2 ≤ 1048576) (hq : 0 ≤ q ∧ q ≤ 1000000000000) : EFn Tryz.prog 18 [.agg [.ro (ints (seqF q n0)), .ro (ints (seqF (q + n0) n1)), .ro (pairs (seqP (q + n0 + n1) n2))], .c (.sc (.int .i64 q))] [] (fun r S => r = .c (.sc (.int .i64 (q + n0 + n1 + 2 * n2))) ∧ S = []) := by
 refine E_fn Tryz.func18 rfl (Nat.le_of_ble_eq_true rfl) ?_
 refine E_seq ?_
 refine E_region' (L := [0, 1]) rfl ?_
 refine x_box rfl rfl rfl rfl rfl ?_
 refine xas ?_
 refine EOps_nil ?_
 refine E_seq ?_
 refine e_tidy [0, 1, 2, 4] ?_
 refine E_region' (L := [0, 1, 2, 3, 4]) rfl ?_
 refine x_pure rfl rfl rfl (l_field rfl fo_29_0) ?_
 refine x_light rfl rfl rfl (L_load rfl (by first | exact d_bp ty_22 | exact ld_rp ty_22 rfl | exact d_ep ty_22)) ?_
 refine xmv ?_
 refine x_call rfl rfl rfl rfl rfl ca_20 (c_laws_heldIntS n0 q hb.1 (by omega)) ?_
 rintro r S ⟨rfl, rfl⟩
 refine xas ?_
 refine EOps_nil ?_
 refine E_seq ?_
 refine E_seq ?_
 refine E_region' (L := [0, 1]) rfl ?_
 refine xmv ?_
 refine x_pure rfl rfl rfl (L_bin rfl rfl rfl rfl) ?_
 refine EOps_nil ?_
 refine E_cond rfl (fun hc10 => ?_) (fun hc10 => ?_)
 ·simp at hc10; omega
 ·refine E_skip ?_
  refine E_seq ?_
  refine e_tidy [0, 1, 2, 4, 10] ?_
  refine E_region' (L := [0, 1, 2, 3, 4]) rfl ?_
  refine x_pure rfl rfl rfl (l_field rfl fo_29_1) ?_
  refine x_light rfl rfl rfl (L_load rfl (by first | exact d_bp ty_22 | exact ld_rp ty_22 rfl | exact d_ep ty_22)) ?_
  refine xmv ?_
  refine x_call rfl rfl rfl rfl rfl ca_20 (c_laws_heldIntS n1 (q + n0) hb.2.1 (by omega)) ?_
  rintro r S ⟨rfl, rfl⟩
  refine xas ?_
  refine EOps_nil ?_
  refine E_seq ?_
  refine E_seq ?_
  refine E_region' (L := [0, 1]) rfl ?_
  refine xmv ?_
  refine x_pure rfl rfl rfl (L_bin rfl rfl rfl rfl) ?_
  refine EOps_nil ?_
  refine E_cond rfl (fun hc16 => ?_) (fun hc16 => ?_)
  ·simp at hc16; omega
  ·refine E_skip ?_
   refine E_seq ?_
   refine e_tidy [0, 1, 2, 4, 10, 16] ?_
   refine E_region' (L := [0, 1, 2, 3, 4]) rfl ?_
   refine x_pure rfl rfl rfl (l_field rfl fo_29_2) ?_
   refine x_light rfl rfl rfl (L_load rfl (by first | exact d_bp ty_27 | exact ld_rp ty_27 rfl | exact d_ep ty_27)) ?_
   refine xmv ?_
   refine x_call rfl rfl rfl rfl rfl ca_33 (c_laws_heldPivotS n2 (q + n0 + n1) hb.2.2 (by omega)) ?_
   rintro r S ⟨rfl, rfl⟩
   refine xas ?_
   refine EOps_nil ?_
   refine E_seq ?_
   refine E_seq ?_
   refine E_region' (L := [0, 1]) rfl ?_
   refine xmv ?_
   refine x_pure rfl rfl rfl (L_bin rfl rfl rfl rfl) ?_
   refine EOps_nil ?_
   refine E_cond rfl (fun hc22 => ?_) (fun hc22 => ?_)
   ·simp at hc22; omega
   ·refine E_skip ?_
    refine E_seq ?_
    refine E_region' (L := [0, 1]) rfl ?_
    refine xmv ?_
    refine xas ?_
    refine EOps_nil ?_
    refine E_ret ?_
    exact ⟨_, [], rfl, rfl, rfl, rfl⟩

end Go.Proofs.YthnadkagchbhbaaGreat.E
