/- Walks through functions, by program out of the session's annotations. -/
import Derived.Test.YtkaikajjhhnifaaA20
namespace Go.Proofs.Ytkaikajjhhnifaa.E
open Go Go.RowKit Go.Proofs
set_option linter.unusedVariables false
set_option linter.unusedSimpArgs false

def seqV (q : Int) : Nat → List (Int × Int × Int × Int × Int)
  | 0 => []
  | n + 1 => seqV q n ++ [(q + 5 * n, q + 5 * n + 1, q + 5 * n + 1 + 1, q + 5 * n + 1 + 1 + 1, q + 5 * n + 1 + 1 + 1 + 1)]
theorem seqV_len (q : Int) : ∀ n, (seqV q n).length = n
  | 0 => rfl
  | n + 1 => by simp [seqV, seqV_len q n]

set_option maxRecDepth 20000 in
set_option maxHeartbeats 2000000 in
theorem c_laws_szChargeS (xs : List (Int × Int × Int × Int × Int)) (left : Int) (hl : -1 ≤ left ∧ left ≤ 1048576) : EFn Try.prog 58 [.c (.ro (quints xs)), .c (.sc (.int .i64 left))] [] (fun r S => r = .c (.sc (.int .i64 (szR left xs.length))) ∧ S = []) := by
  refine E_fn Try.func58 rfl (Nat.le_of_ble_eq_true rfl) ?_
  refine E_bound (t := 0) (rows := quints xs) rfl fun hb => ?_
  rw [quints_len] at hb
  refine E_seq ?_
  refine E_region' (L := [0]) rfl ?_
  refine x_pure rfl rfl rfl (L_assign rfl) ?_
  refine EOps_nil ?_
  refine E_seq ?_
  refine E_region' (L := [0, 1, 2, 3, 4]) rfl ?_
  refine x_pure rfl rfl rfl (L_move rfl) ?_
  refine x_pure rfl rfl rfl (L_move rfl) ?_
  refine x_pure rfl rfl rfl (l_len rfl sl_84) ?_
  refine x_pure rfl rfl rfl (by first | exact l_sub rfl rfl rfl | exact L_bin rfl rfl rfl rfl) ?_
  refine x_pure rfl rfl rfl (L_assign rfl) ?_
  refine EOps_nil ?_
  refine E_seq ?_
  refine E_seq ?_
  refine E_region' (L := [0, 1]) rfl ?_
  refine x_pure rfl rfl rfl (L_move rfl) ?_
  refine x_pure rfl rfl rfl (L_bin rfl rfl rfl rfl) ?_
  refine EOps_nil ?_
  refine E_cond rfl (fun hc10 => ?_) (fun hc10 => ?_)
  · have h1 : left - xs.length < 0 := by simpa [quints_len] using hc10
    refine E_seq ?_
    refine E_region' (L := [0]) rfl ?_
    refine x_pure rfl rfl rfl (L_assign rfl) ?_
    refine EOps_nil ?_
    refine E_ret ?_
    refine ⟨_, [], rfl, rfl, int_eq ?_, rfl⟩
    rw [szR, if_pos h1]
  · have h1 : ¬ left - xs.length < 0 := by simpa [quints_len] using hc10
    refine E_skip ?_
    refine E_seq ?_
    refine E_region' (L := [0, 1]) rfl ?_
    refine x_pure rfl rfl rfl (L_move rfl) ?_
    refine x_pure rfl rfl rfl (L_assign rfl) ?_
    refine EOps_nil ?_
    refine E_ret ?_
    refine ⟨_, [], rfl, rfl, int_eq ?_, rfl⟩
    rw [szR, if_neg h1, ← quints_len]

set_option maxRecDepth 20000 in
set_option maxHeartbeats 2000000 in
theorem c_laws_toCharge (a b c d e : Int) : EFn Try.prog 135 [.agg [.sc (.int .i64 a), .sc (.int .i64 b), .sc (.int .i64 c), .sc (.int .i64 d), .sc (.int .i64 e)]] [] (fun r S => r = .agg [.sc (.int .i64 a), .sc (.int .i64 b), .sc (.int .i64 c), .sc (.int .i64 d), .sc (.int .i64 e)] ∧ S = []) := by
  refine E_fn Try.func135 rfl (Nat.le_of_ble_eq_true rfl) ?_
  refine E_seq ?_
  refine E_region' (L := [0, 1]) rfl ?_
  refine x_box rfl rfl rfl rfl rfl ?_
  refine x_alloc rfl rfl rfl rfl za_151 ?_
  refine EOps_nil ?_
  refine E_seq ?_
  refine E_region' (L := [0]) rfl ?_
  refine x_alloc rfl rfl rfl rfl za_151 ?_
  refine EOps_nil ?_
  refine E_seq ?_
  refine E_region' (L := [0, 1, 2, 3]) rfl ?_
  refine x_pure rfl rfl rfl (l_field rfl fo_153_0) ?_
  refine x_light rfl rfl rfl (L_load rfl (by first | exact d_bp ty_3 | exact ld_rp ty_3 rfl | exact d_ep ty_3)) ?_
  refine x_pure rfl rfl rfl (l_field rfl fo_151_0) ?_
  refine EOps_go rfl rfl (EOp_store rfl rfl rfl (by first | exact s_bp ty_3 | exact s_ep ty_3) ?_)
  refine EOps_nil ?_
  refine E_seq ?_
  refine E_region' (L := [0, 1, 2, 3]) rfl ?_
  refine x_pure rfl rfl rfl (l_field rfl fo_153_1) ?_
  refine x_light rfl rfl rfl (L_load rfl (by first | exact d_bp ty_3 | exact ld_rp ty_3 rfl | exact d_ep ty_3)) ?_
  refine x_pure rfl rfl rfl (l_field rfl fo_151_1) ?_
  refine EOps_go rfl rfl (EOp_store rfl rfl rfl (by first | exact s_bp ty_3 | exact s_ep ty_3) ?_)
  refine EOps_nil ?_
  refine E_seq ?_
  refine E_region' (L := [0, 1, 2, 3]) rfl ?_
  refine x_pure rfl rfl rfl (l_field rfl fo_153_2) ?_
  refine x_light rfl rfl rfl (L_load rfl (by first | exact d_bp ty_3 | exact ld_rp ty_3 rfl | exact d_ep ty_3)) ?_
  refine x_pure rfl rfl rfl (l_field rfl fo_151_2) ?_
  refine EOps_go rfl rfl (EOp_store rfl rfl rfl (by first | exact s_bp ty_3 | exact s_ep ty_3) ?_)
  refine EOps_nil ?_
  refine E_seq ?_
  refine E_region' (L := [0, 1, 2, 3]) rfl ?_
  refine x_pure rfl rfl rfl (l_field rfl fo_153_3) ?_
  refine x_light rfl rfl rfl (L_load rfl (by first | exact d_bp ty_3 | exact ld_rp ty_3 rfl | exact d_ep ty_3)) ?_
  refine x_pure rfl rfl rfl (l_field rfl fo_151_3) ?_
  refine EOps_go rfl rfl (EOp_store rfl rfl rfl (by first | exact s_bp ty_3 | exact s_ep ty_3) ?_)
  refine EOps_nil ?_
  refine E_seq ?_
  refine E_region' (L := [0, 1, 2, 3]) rfl ?_
  refine x_pure rfl rfl rfl (l_field rfl fo_153_4) ?_
  refine x_light rfl rfl rfl (L_load rfl (by first | exact d_bp ty_3 | exact ld_rp ty_3 rfl | exact d_ep ty_3)) ?_
  refine x_pure rfl rfl rfl (l_field rfl fo_151_4) ?_
  refine EOps_go rfl rfl (EOp_store rfl rfl rfl (by first | exact s_bp ty_3 | exact s_ep ty_3) ?_)
  refine EOps_nil ?_
  refine E_seq ?_
  refine E_region' (L := [0, 1]) rfl ?_
  refine x_light rfl rfl rfl (L_load rfl (by first | exact d_bp ty_151 | exact ld_rp ty_151 rfl | exact d_ep ty_151)) ?_
  refine EOps_go rfl rfl (EOp_store rfl rfl rfl (by first | exact s_bp ty_151 | exact s_ep ty_151) ?_)
  refine EOps_nil ?_
  refine E_ret ?_
  exact ⟨_, [], rfl, rfl, rfl, rfl⟩

set_option maxRecDepth 20000 in
set_option maxHeartbeats 2000000 in
theorem c_laws_toChargeS (xs : List (Int × Int × Int × Int × Int)) (hn : xs.length ≤ 1048576) : EFn Try.prog 61 [.c (.ro (quints xs))] [] (fun r S => r = .c (.sl 0 0 xs.length xs.length) ∧ S = [.row 151 5 (quints xs)]) := by
  refine E_fn Try.func61 rfl (Nat.le_of_ble_eq_true rfl) ?_
  refine E_seq ?_
  refine E_region' (L := [0]) rfl ?_
  refine x_pure rfl rfl rfl (L_assign rfl) ?_
  refine EOps_nil ?_
  refine E_seq ?_
  refine E_region' (L := [0, 1, 2, 3]) rfl ?_
  refine x_pure rfl rfl rfl (L_move rfl) ?_
  refine x_pure rfl rfl rfl (l_len rfl sl_84) ?_
  refine EOps_go rfl rfl (Heavy.op (H_make rfl rfl (by decide) rfl rfl sl_89 ty_151 by_151 za_151 ⟨rfl, by decide⟩ (by simp [quints_len]; omega) ?_))
  refine x_pure rfl rfl rfl (L_assign rfl) ?_
  refine EOps_nil ?_
  refine E_seq ?_
  refine E_seq ?_
  refine E_region' (L := [0]) rfl ?_
  refine x_pure rfl rfl rfl (L_assign rfl) ?_
  refine EOps_nil ?_
  refine E_block ?_
  refine e_for (α := Nat) [0, 2, 3] (fun k => [(4, .c (.sc (.int .i64 (k))))]) (fun k => [.row 151 5 (quints (part xs (0, 0, 0, 0, 0) k))]) (fun k => k ≤ xs.length) (fun k => xs.length - k) (0) ?_ (by simp [zT, quints_len, quints_rep, part_zero]) ⟨.inr rfl, trivial⟩ ?_
  · simp
  rintro k hI
  refine E_seq ?_
  refine E_seq ?_
  refine E_region' (L := [0, 1, 2, 3]) rfl ?_
  refine x_pure rfl rfl rfl (L_move rfl) ?_
  refine x_pure rfl rfl rfl (L_move rfl) ?_
  refine x_pure rfl rfl rfl (l_len rfl sl_84) ?_
  refine x_pure rfl rfl rfl (L_bin rfl rfl rfl rfl) ?_
  refine EOps_nil ?_
  refine E_cond rfl (fun hc11 => ?_) (fun hc11 => ?_)
  · have hc11' : k < (xs).length := by simpa [ints_len, bools_len, pairs_len, quads_len, quints_len] using hc11
    obtain ⟨x, hx⟩ : ∃ x, (xs)[k]? = some x := ⟨_, List.getElem?_eq_getElem hc11'⟩
    refine E_skip ?_
    refine E_seq ?_
    refine E_block ?_
    refine E_region' (L := [0, 1, 2, 3, 4, 5, 6, 7, 8]) rfl ?_
    refine x_pure rfl rfl rfl (L_move rfl) ?_
    refine x_pure rfl rfl rfl (L_move rfl) ?_
    refine x_pure rfl rfl rfl (L_move rfl) ?_
    refine x_pure rfl rfl rfl (L_move rfl) ?_
    refine x_pure rfl rfl rfl (L_index rfl rfl (by first | exact i_ro sl_84 ty_153 | exact i_sl sl_84 ty_153)) ?_
    refine x_light rfl rfl rfl (L_load rfl (by first | exact d_bp ty_153 | exact ld_rp ty_153 rfl | exact d_ep ty_153)) ?_
    refine x_call rfl rfl rfl rfl rfl ca_135 (c_laws_toCharge x.1 x.2.1 x.2.2.1 x.2.2.2.1 x.2.2.2.2) ?_
    rintro r S ⟨rfl, rfl⟩
    refine x_pure rfl rfl rfl (L_index rfl rfl (by first | exact i_ro sl_89 ty_151 | exact i_sl sl_89 ty_151)) ?_
    refine EOps_go rfl rfl (EOp_store rfl rfl rfl (by first | exact s_bp ty_151 | exact s_ep ty_151) ?_)
    refine EOps_nil ?_
    refine E_region' (L := [0, 1, 2]) rfl ?_
    refine x_pure rfl rfl rfl (L_move rfl) ?_
    refine x_pure rfl rfl rfl (by first | exact l_add rfl rfl rfl | exact L_bin rfl rfl rfl rfl) ?_
    refine x_pure rfl rfl rfl (L_assign rfl) ?_
    refine EOps_nil ?_
    refine ⟨k + 1, ?_, ?_, by rw [← part_set hx, ← quints_set]; simp [splice], ⟨.inr rfl, trivial⟩, ⟨.inr rfl, .inr rfl, .inr rfl, trivial⟩⟩
    · first | omega | (dsimp only; omega) | (simp; omega)
    · first | trivial | omega | (dsimp only; omega) | (simp; omega)
  · have hk : xs.length ≤ k := by simpa [quints_len] using hc11
    refine E_exit ?_
    refine E_seq ?_
    refine E_region' (L := [0, 1]) rfl ?_
    refine x_pure rfl rfl rfl (L_move rfl) ?_
    refine x_pure rfl rfl rfl (L_assign rfl) ?_
    refine EOps_nil ?_
    refine E_ret ?_
    refine ⟨_, [0], rfl, rfl, ?_, ?_⟩
    · simp [AV.ren, ren_sc, ren_ro, AC.ren, AC.ren.rens, ix, rv1, E.get, E.ev, E.cv, E.fill', E.fill, E.slotsOf, quints_len]
    · simp [reR, Res.ren, part_full xs (0, 0, 0, 0, 0) hk]

set_option maxRecDepth 20000 in
set_option maxHeartbeats 2000000 in
theorem c_laws_eqCharge (a b : Int × Int × Int × Int × Int) : EFn Try.prog 138 [.agg [.sc (.int .i64 a.1), .sc (.int .i64 a.2.1), .sc (.int .i64 a.2.2.1), .sc (.int .i64 a.2.2.2.1), .sc (.int .i64 a.2.2.2.2)], .agg [.sc (.int .i64 b.1), .sc (.int .i64 b.2.1), .sc (.int .i64 b.2.2.1), .sc (.int .i64 b.2.2.2.1), .sc (.int .i64 b.2.2.2.2)]] [] (fun r S => r = .c (.sc (.bool (decide (a = b)))) ∧ S = []) := by
  refine E_fn Try.func138 rfl (Nat.le_of_ble_eq_true rfl) ?_
  obtain ⟨a1, a2, a3, a4, a5⟩ := a
  obtain ⟨b1, b2, b3, b4, b5⟩ := b
  refine E_seq ?_
  refine E_region' (L := [0, 1, 2]) rfl ?_
  refine x_box rfl rfl rfl rfl rfl ?_
  refine x_box rfl rfl rfl rfl rfl ?_
  refine x_pure rfl rfl rfl (L_assign rfl) ?_
  refine EOps_nil ?_
  refine E_seq ?_
  refine E_seq ?_
  refine E_region' (L := [0, 1, 2, 3, 4]) rfl ?_
  refine x_pure rfl rfl rfl (l_field rfl fo_151_0) ?_
  refine x_light rfl rfl rfl (L_load rfl (by first | exact d_bp ty_3 | exact ld_rp ty_3 rfl | exact d_ep ty_3)) ?_
  refine x_pure rfl rfl rfl (l_field rfl fo_151_0) ?_
  refine x_light rfl rfl rfl (L_load rfl (by first | exact d_bp ty_3 | exact ld_rp ty_3 rfl | exact d_ep ty_3)) ?_
  refine x_pure rfl rfl rfl (L_bin rfl rfl rfl rfl) ?_
  refine EOps_nil ?_
  refine E_cond rfl (fun hc9 => ?_) (fun hc9 => ?_)
  · refine E_seq ?_
    refine E_region' (L := [0]) rfl ?_
    refine x_pure rfl rfl rfl (L_assign rfl) ?_
    refine EOps_nil ?_
    refine E_ret ?_
    refine ⟨_, [], rfl, rfl, bool_eq ?_, rfl⟩
    simp_all [tc]
  · refine E_skip ?_
    refine E_seq ?_
    refine E_seq ?_
    refine E_region' (L := [0, 1, 2, 3, 4]) rfl ?_
    refine x_pure rfl rfl rfl (l_field rfl fo_151_1) ?_
    refine x_light rfl rfl rfl (L_load rfl (by first | exact d_bp ty_3 | exact ld_rp ty_3 rfl | exact d_ep ty_3)) ?_
    refine x_pure rfl rfl rfl (l_field rfl fo_151_1) ?_
    refine x_light rfl rfl rfl (L_load rfl (by first | exact d_bp ty_3 | exact ld_rp ty_3 rfl | exact d_ep ty_3)) ?_
    refine x_pure rfl rfl rfl (L_bin rfl rfl rfl rfl) ?_
    refine EOps_nil ?_
    refine E_cond rfl (fun hc14 => ?_) (fun hc14 => ?_)
    · refine E_seq ?_
      refine E_region' (L := [0]) rfl ?_
      refine x_pure rfl rfl rfl (L_assign rfl) ?_
      refine EOps_nil ?_
      refine E_ret ?_
      refine ⟨_, [], rfl, rfl, bool_eq ?_, rfl⟩
      simp_all [tc]
    · refine E_skip ?_
      refine E_seq ?_
      refine E_seq ?_
      refine E_region' (L := [0, 1, 2, 3, 4]) rfl ?_
      refine x_pure rfl rfl rfl (l_field rfl fo_151_2) ?_
      refine x_light rfl rfl rfl (L_load rfl (by first | exact d_bp ty_3 | exact ld_rp ty_3 rfl | exact d_ep ty_3)) ?_
      refine x_pure rfl rfl rfl (l_field rfl fo_151_2) ?_
      refine x_light rfl rfl rfl (L_load rfl (by first | exact d_bp ty_3 | exact ld_rp ty_3 rfl | exact d_ep ty_3)) ?_
      refine x_pure rfl rfl rfl (L_bin rfl rfl rfl rfl) ?_
      refine EOps_nil ?_
      refine E_cond rfl (fun hc19 => ?_) (fun hc19 => ?_)
      · refine E_seq ?_
        refine E_region' (L := [0]) rfl ?_
        refine x_pure rfl rfl rfl (L_assign rfl) ?_
        refine EOps_nil ?_
        refine E_ret ?_
        refine ⟨_, [], rfl, rfl, bool_eq ?_, rfl⟩
        simp_all [tc]
      · refine E_skip ?_
        refine E_seq ?_
        refine E_seq ?_
        refine E_region' (L := [0, 1, 2, 3, 4]) rfl ?_
        refine x_pure rfl rfl rfl (l_field rfl fo_151_3) ?_
        refine x_light rfl rfl rfl (L_load rfl (by first | exact d_bp ty_3 | exact ld_rp ty_3 rfl | exact d_ep ty_3)) ?_
        refine x_pure rfl rfl rfl (l_field rfl fo_151_3) ?_
        refine x_light rfl rfl rfl (L_load rfl (by first | exact d_bp ty_3 | exact ld_rp ty_3 rfl | exact d_ep ty_3)) ?_
        refine x_pure rfl rfl rfl (L_bin rfl rfl rfl rfl) ?_
        refine EOps_nil ?_
        refine E_cond rfl (fun hc24 => ?_) (fun hc24 => ?_)
        · refine E_seq ?_
          refine E_region' (L := [0]) rfl ?_
          refine x_pure rfl rfl rfl (L_assign rfl) ?_
          refine EOps_nil ?_
          refine E_ret ?_
          refine ⟨_, [], rfl, rfl, bool_eq ?_, rfl⟩
          simp_all [tc]
        · refine E_skip ?_
          refine E_seq ?_
          refine E_seq ?_
          refine E_region' (L := [0, 1, 2, 3, 4]) rfl ?_
          refine x_pure rfl rfl rfl (l_field rfl fo_151_4) ?_
          refine x_light rfl rfl rfl (L_load rfl (by first | exact d_bp ty_3 | exact ld_rp ty_3 rfl | exact d_ep ty_3)) ?_
          refine x_pure rfl rfl rfl (l_field rfl fo_151_4) ?_
          refine x_light rfl rfl rfl (L_load rfl (by first | exact d_bp ty_3 | exact ld_rp ty_3 rfl | exact d_ep ty_3)) ?_
          refine x_pure rfl rfl rfl (L_bin rfl rfl rfl rfl) ?_
          refine EOps_nil ?_
          refine E_cond rfl (fun hc29 => ?_) (fun hc29 => ?_)
          · refine E_seq ?_
            refine E_region' (L := [0]) rfl ?_
            refine x_pure rfl rfl rfl (L_assign rfl) ?_
            refine EOps_nil ?_
            refine E_ret ?_
            refine ⟨_, [], rfl, rfl, bool_eq ?_, rfl⟩
            simp_all [tc]
          · refine E_skip ?_
            refine E_seq ?_
            refine E_region' (L := [0]) rfl ?_
            refine x_pure rfl rfl rfl (L_assign rfl) ?_
            refine EOps_nil ?_
            refine E_ret ?_
            refine ⟨_, [], rfl, rfl, bool_eq ?_, rfl⟩
            simp_all [tc]

set_option maxRecDepth 20000 in
set_option maxHeartbeats 2000000 in
theorem c_laws_eqChargeS (xs ys : List (Int × Int × Int × Int × Int)) : EFn Try.prog 64 [.c (.ro (quints xs)), .c (.ro (quints ys))] [] (fun r S => r = .c (.sc (.bool (decide (xs = ys)))) ∧ S = []) := by
  refine E_fn Try.func64 rfl (Nat.le_of_ble_eq_true rfl) ?_
  refine E_bound (t := 0) (rows := quints xs) rfl fun hb => ?_
  rw [quints_len] at hb
  refine E_seq ?_
  refine E_region' (L := [0]) rfl ?_
  refine x_pure rfl rfl rfl (L_assign rfl) ?_
  refine EOps_nil ?_
  refine E_seq ?_
  refine E_seq ?_
  refine E_region' (L := [0, 1, 2, 3, 4]) rfl ?_
  refine x_pure rfl rfl rfl (L_move rfl) ?_
  refine x_pure rfl rfl rfl (l_len rfl sl_89) ?_
  refine x_pure rfl rfl rfl (L_move rfl) ?_
  refine x_pure rfl rfl rfl (l_len rfl sl_89) ?_
  refine x_pure rfl rfl rfl (L_bin rfl rfl rfl rfl) ?_
  refine EOps_nil ?_
  refine E_cond rfl (fun hc10 => ?_) (fun hc10 => ?_)
  · have hne : xs ≠ ys := fun e => by subst e; simp at hc10
    refine E_seq ?_
    refine E_region' (L := [0]) rfl ?_
    refine x_pure rfl rfl rfl (L_assign rfl) ?_
    refine EOps_nil ?_
    refine E_ret ?_
    refine ⟨_, [], rfl, rfl, ?_, rfl⟩
    simp [AV.ren, ren_sc, ren_ro, AC.ren, AC.ren.rens, ix, rv1, E.get, E.ev, E.cv, E.fill', E.fill, E.slotsOf, hne]
  · have hlen : xs.length = ys.length := by simp [quints_len] at hc10; omega
    refine E_skip ?_
    refine E_seq ?_
    refine E_seq ?_
    refine E_region' (L := [0]) rfl ?_
    refine x_pure rfl rfl rfl (L_assign rfl) ?_
    refine EOps_nil ?_
    refine E_block ?_
    refine e_for (α := Nat) [0, 1, 10] (fun k => [(5, .c (.sc (.int .i64 (k))))]) (fun _ => _) (fun k => k ≤ xs.length ∧ xs.take k = ys.take k) (fun k => xs.length - k) (0) ?_ (rfl) ⟨.inr rfl, trivial⟩ ?_
    · simp
    rintro k ⟨hk, htk⟩
    refine E_seq ?_
    refine E_seq ?_
    refine E_region' (L := [0, 1, 2, 3]) rfl ?_
    refine x_pure rfl rfl rfl (L_move rfl) ?_
    refine x_pure rfl rfl rfl (L_move rfl) ?_
    refine x_pure rfl rfl rfl (l_len rfl sl_89) ?_
    refine x_pure rfl rfl rfl (L_bin rfl rfl rfl rfl) ?_
    refine EOps_nil ?_
    refine E_cond rfl (fun hc14 => ?_) (fun hc14 => ?_)
    · have hc14' : k < (xs).length := by simpa [ints_len, bools_len, pairs_len, quads_len, quints_len] using hc14
      obtain ⟨x, hx⟩ : ∃ x, (xs)[k]? = some x := ⟨_, List.getElem?_eq_getElem hc14'⟩
      obtain ⟨y, hy⟩ : ∃ y, ys[k]? = some y := ⟨_, List.getElem?_eq_getElem (hlen ▸ hc14')⟩
      refine E_skip ?_
      refine E_seq ?_
      refine E_block ?_
      refine E_seq ?_
      refine E_drawT mixed ?_
      refine t_old 0 rfl rfl rfl (L_move rfl) ?_
      refine t_old 1 rfl rfl rfl (L_move rfl) ?_
      refine t_old 2 rfl rfl rfl (L_index rfl rfl (by first | exact i_ro sl_89 ty_151 | exact i_sl sl_89 ty_151)) ?_
      refine t_light 3 rfl rfl rfl (L_load rfl (by first | exact d_bp ty_151 | exact ld_rp ty_151 rfl | exact d_ep ty_151)) ?_
      refine t_old 4 rfl rfl rfl (L_move rfl) ?_
      refine t_old 5 rfl rfl rfl (L_move rfl) ?_
      refine t_old 6 rfl rfl rfl (L_index rfl rfl (by first | exact i_ro sl_89 ty_151 | exact i_sl sl_89 ty_151)) ?_
      refine t_light 7 rfl rfl rfl (L_load rfl (by first | exact d_bp ty_151 | exact ld_rp ty_151 rfl | exact d_ep ty_151)) ?_
      refine t_call 8 rfl rfl rfl rfl rfl ca_138 (c_laws_eqCharge x y) ?_
      rintro r S ⟨rfl, rfl⟩
      refine t_old 9 rfl rfl rfl (L_not rfl rfl) ?_
      refine T_done (by kernel_rfl) ?_
      refine E_cond rfl (fun hc26 => ?_) (fun hc26 => ?_)
      · have hne : xs ≠ ys := fun e => by subst e; rw [hx] at hy; cases hy; simp at hc26
        refine E_seq ?_
        refine E_region' (L := [0]) rfl ?_
        refine x_pure rfl rfl rfl (L_assign rfl) ?_
        refine EOps_nil ?_
        refine E_ret ?_
        refine ⟨_, [], rfl, rfl, ?_, rfl⟩
        simp [AV.ren, ren_sc, ren_ro, AC.ren, AC.ren.rens, ix, rv1, E.get, E.ev, E.cv, E.fill', E.fill, E.slotsOf, hne]
      · have hxy : x = y := by simpa using hc26
        refine E_skip ?_
        refine E_region' (L := [0, 1, 2]) rfl ?_
        refine x_pure rfl rfl rfl (L_move rfl) ?_
        refine x_pure rfl rfl rfl (by first | exact l_add rfl rfl rfl | exact L_bin rfl rfl rfl rfl) ?_
        refine x_pure rfl rfl rfl (L_assign rfl) ?_
        refine EOps_nil ?_
        refine ⟨k + 1, ?_, ?_, rfl, ⟨.inr rfl, trivial⟩, ⟨.inr rfl, .inr rfl, .inr rfl, trivial⟩⟩
        · first | omega | (dsimp only; omega) | (simp; omega)
        · exact ⟨by omega, by rw [List.take_add_one, List.take_add_one, htk, hx, hy, hxy]⟩
    · have hk' : xs.length ≤ k := by simpa [quints_len] using hc14
      have heq : xs = ys := by rw [List.take_of_length_le hk', List.take_of_length_le (by omega)] at htk; exact htk
      refine E_exit ?_
      refine E_seq ?_
      refine E_region' (L := [0]) rfl ?_
      refine x_pure rfl rfl rfl (L_assign rfl) ?_
      refine EOps_nil ?_
      refine E_ret ?_
      refine ⟨_, [], rfl, rfl, ?_, rfl⟩
      simp [AV.ren, ren_sc, ren_ro, AC.ren, AC.ren.rens, ix, rv1, E.get, E.ev, E.cv, E.fill', E.fill, E.slotsOf, heq]

set_option maxRecDepth 20000 in
set_option maxHeartbeats 2000000 in
theorem c_laws_markChargeS (e n : Nat) (q : Int) (xs : List (Int × Int × Int × Int × Int)) (hn : xs.length = n) (hb : n ≤ 1048576) (hq : 0 ≤ q ∧ q ≤ 1099511627776) : EFn Try.prog 66 [.c (.sl 0 0 n n), .c (.sc (.int .i64 q))] [.row e 5 (quints xs)] (fun r S => r = .c (.sc (.int .i64 (q + 5 * n))) ∧ S = [.row e 5 (quints (seqV q n))]) := by
  refine E_fn Try.func66 rfl (Nat.le_of_ble_eq_true rfl) ?_
  refine E_seq ?_
  refine E_region' (L := [0]) rfl ?_
  refine x_pure rfl rfl rfl (L_assign rfl) ?_
  refine EOps_nil ?_
  refine E_seq ?_
  refine E_seq ?_
  refine E_region' (L := [0]) rfl ?_
  refine x_pure rfl rfl rfl (L_assign rfl) ?_
  refine EOps_nil ?_
  refine E_block ?_
  refine e_for (α := Nat) [0, 4] (fun k => [(5, .c (.sc (.int .i64 (k)))), (1, .c (.sc (.int .i64 ((q + 5 * k)))))]) (fun k => [.row e 5 (quints (seqV q k ++ xs.drop k))]) (fun k => k ≤ n) (fun k => n - k) (0) ?_ (rfl) ⟨.inr rfl, .inr (int_eq (by simp)), trivial⟩ ?_
  · simp
  rintro k hk
  have hlk : (quints (seqV q k ++ xs.drop k)).length = n := by simp [quints_len, seqV_len]; omega
  refine E_seq ?_
  refine E_seq ?_
  refine E_region' (L := [0, 1, 2, 3]) rfl ?_
  refine x_pure rfl rfl rfl (L_move rfl) ?_
  refine x_pure rfl rfl rfl (L_move rfl) ?_
  refine x_pure rfl rfl rfl (l_len rfl sl_89) ?_
  refine x_pure rfl rfl rfl (L_bin rfl rfl rfl rfl) ?_
  refine EOps_nil ?_
  refine E_cond rfl (fun hc9 => ?_) (fun hc9 => ?_)
  · have hk0 : k < n := by simpa using hc9
    have hk' : k < xs.length := by omega
    obtain ⟨x, hx, hx', hset⟩ := over_at (seqV_len q k) hk'
    refine E_skip ?_
    refine E_seq ?_
    refine E_block ?_
    refine E_seq ?_
    refine E_region' (L := [0, 1, 2, 3, 4, 5]) rfl ?_
    refine x_pure rfl rfl rfl (L_move rfl) ?_
    refine x_pure rfl rfl rfl (L_move rfl) ?_
    refine x_pure rfl rfl rfl (L_move rfl) ?_
    refine x_pure rfl rfl rfl (L_index rfl rfl (by first | exact i_ro sl_89 ty_151 | exact i_sl sl_89 ty_151)) ?_
    refine x_pure rfl rfl rfl (l_field rfl fo_151_0) ?_
    refine EOps_go rfl rfl (EOp_store rfl rfl rfl (by first | exact s_bp ty_3 | exact s_ep ty_3) ?_)
    refine EOps_nil ?_
    refine E_seq ?_
    refine E_region' (L := [0, 1, 2]) rfl ?_
    refine x_pure rfl rfl rfl (L_move rfl) ?_
    refine x_pure rfl rfl rfl (by first | exact l_add rfl rfl rfl | exact L_bin rfl rfl rfl rfl) ?_
    refine x_pure rfl rfl rfl (L_assign rfl) ?_
    refine EOps_nil ?_
    refine E_seq ?_
    refine E_region' (L := [0, 1, 2, 3, 4, 5]) rfl ?_
    refine x_pure rfl rfl rfl (L_move rfl) ?_
    refine x_pure rfl rfl rfl (L_move rfl) ?_
    refine x_pure rfl rfl rfl (L_move rfl) ?_
    refine x_pure rfl rfl rfl (L_index rfl rfl (by first | exact i_ro sl_89 ty_151 | exact i_sl sl_89 ty_151)) ?_
    refine x_pure rfl rfl rfl (l_field rfl fo_151_1) ?_
    refine EOps_go rfl rfl (EOp_store rfl rfl rfl (by first | exact s_bp ty_3 | exact s_ep ty_3) ?_)
    refine EOps_nil ?_
    refine E_seq ?_
    refine E_region' (L := [0, 1, 2]) rfl ?_
    refine x_pure rfl rfl rfl (L_move rfl) ?_
    refine x_pure rfl rfl rfl (by first | exact l_add rfl rfl rfl | exact L_bin rfl rfl rfl rfl) ?_
    refine x_pure rfl rfl rfl (L_assign rfl) ?_
    refine EOps_nil ?_
    refine E_seq ?_
    refine E_region' (L := [0, 1, 2, 3, 4, 5]) rfl ?_
    refine x_pure rfl rfl rfl (L_move rfl) ?_
    refine x_pure rfl rfl rfl (L_move rfl) ?_
    refine x_pure rfl rfl rfl (L_move rfl) ?_
    refine x_pure rfl rfl rfl (L_index rfl rfl (by first | exact i_ro sl_89 ty_151 | exact i_sl sl_89 ty_151)) ?_
    refine x_pure rfl rfl rfl (l_field rfl fo_151_2) ?_
    refine x_store rfl rfl rfl rfl rfl (s_ep ty_3 (hr := List.getElem?_set_self (by simp only [List.length_set]; omega))) ?_
    refine EOps_nil ?_
    refine E_seq ?_
    refine E_region' (L := [0, 1, 2]) rfl ?_
    refine x_pure rfl rfl rfl (L_move rfl) ?_
    refine x_pure rfl rfl rfl (by first | exact l_add rfl rfl rfl | exact L_bin rfl rfl rfl rfl) ?_
    refine x_pure rfl rfl rfl (L_assign rfl) ?_
    refine EOps_nil ?_
    refine E_seq ?_
    refine E_region' (L := [0, 1, 2, 3, 4, 5]) rfl ?_
    refine x_pure rfl rfl rfl (L_move rfl) ?_
    refine x_pure rfl rfl rfl (L_move rfl) ?_
    refine x_pure rfl rfl rfl (L_move rfl) ?_
    refine x_pure rfl rfl rfl (L_index rfl rfl (by first | exact i_ro sl_89 ty_151 | exact i_sl sl_89 ty_151)) ?_
    refine x_pure rfl rfl rfl (l_field rfl fo_151_3) ?_
    refine x_store rfl rfl rfl rfl rfl (s_ep ty_3 (hr := List.getElem?_set_self (by simp only [List.length_set]; omega))) ?_
    refine EOps_nil ?_
    refine E_seq ?_
    refine E_region' (L := [0, 1, 2]) rfl ?_
    refine x_pure rfl rfl rfl (L_move rfl) ?_
    refine x_pure rfl rfl rfl (by first | exact l_add rfl rfl rfl | exact L_bin rfl rfl rfl rfl) ?_
    refine x_pure rfl rfl rfl (L_assign rfl) ?_
    refine EOps_nil ?_
    refine E_seq ?_
    refine E_region' (L := [0, 1, 2, 3, 4, 5]) rfl ?_
    refine x_pure rfl rfl rfl (L_move rfl) ?_
    refine x_pure rfl rfl rfl (L_move rfl) ?_
    refine x_pure rfl rfl rfl (L_move rfl) ?_
    refine x_pure rfl rfl rfl (L_index rfl rfl (by first | exact i_ro sl_89 ty_151 | exact i_sl sl_89 ty_151)) ?_
    refine x_pure rfl rfl rfl (l_field rfl fo_151_4) ?_
    refine x_store rfl rfl rfl rfl rfl (s_ep ty_3 (hr := List.getElem?_set_self (by simp only [List.length_set]; omega))) ?_
    refine EOps_nil ?_
    refine E_region' (L := [0, 1, 2]) rfl ?_
    refine x_pure rfl rfl rfl (L_move rfl) ?_
    refine x_pure rfl rfl rfl (by first | exact l_add rfl rfl rfl | exact L_bin rfl rfl rfl rfl) ?_
    refine x_pure rfl rfl rfl (L_assign rfl) ?_
    refine EOps_nil ?_
    refine E_region' (L := [0, 1, 2]) rfl ?_
    refine x_pure rfl rfl rfl (L_move rfl) ?_
    refine x_pure rfl rfl rfl (by first | exact l_add rfl rfl rfl | exact L_bin rfl rfl rfl rfl) ?_
    refine x_pure rfl rfl rfl (L_assign rfl) ?_
    refine EOps_nil ?_
    refine ⟨k + 1, ?_, ?_, by
  have hs := hset (q + 5 * k, q + 5 * k + 1, q + 5 * k + 1 + 1, q + 5 * k + 1 + 1 + 1, q + 5 * k + 1 + 1 + 1 + 1)
  show [Res.row e 5 _] = [Res.row e 5 (quints ((seqV q k ++ [(q + 5 * (k : Int), q + 5 * (k : Int) + 1, q + 5 * (k : Int) + 1 + 1, q + 5 * (k : Int) + 1 + 1 + 1, q + 5 * (k : Int) + 1 + 1 + 1 + 1)]) ++ xs.drop (k + 1)))]
  rw [← hs, ← quints_set]; simp [splice], ⟨.inr rfl, .inr (int_eq (by omega)), trivial⟩, ⟨.inr rfl, .inr rfl, trivial⟩⟩
    · first | omega | (dsimp only; omega) | (simp; omega)
    · first | trivial | omega | (dsimp only; omega) | (simp; omega)
  · have hk1 : n ≤ k := by simpa using hc9
    have hk0 : k = n := by omega
    refine E_exit ?_
    refine E_seq ?_
    refine E_region' (L := [0, 1]) rfl ?_
    refine x_pure rfl rfl rfl (L_move rfl) ?_
    refine x_pure rfl rfl rfl (L_assign rfl) ?_
    refine EOps_nil ?_
    refine E_ret ?_
    subst hk0
    refine ⟨_, [], rfl, rfl, rfl, ?_⟩
    have hd : xs.drop k = [] := List.drop_of_length_le (by omega)
    have hfin : seqV q k ++ xs.drop k = seqV q k := by rw [hd, List.append_nil]
    rw [hfin]; rfl

end Go.Proofs.Ytkaikajjhhnifaa.E
