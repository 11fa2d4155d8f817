/- Walks through functions, by program out of the session's annotations. -/
import Derived.Test.YtkaikajjhhnifaaA03
import Derived.Test.YtkaikajjhhnifaaA09
namespace Go.Proofs.Ytkaikajjhhnifaa.E
open Go Go.RowKit Go.Proofs
set_option linter.unusedVariables false
set_option linter.unusedSimpArgs false

def seqQ (q : Int) : Nat → List (Int × Int × Int × Int)
  | 0 => []
  | n + 1 => seqQ q n ++ [(q + 4 * n, q + 4 * n + 1, q + 4 * n + 1 + 1, q + 4 * n + 1 + 1 + 1)]
theorem seqQ_len (q : Int) : ∀ n, (seqQ q n).length = n
  | 0 => rfl
  | n + 1 => by simp [seqQ, seqQ_len q n]
theorem seqQ_at (q : Int) : ∀ (n k : Nat), k < n → (seqQ q n)[k]? = some (q + 4 * k, q + 4 * k + 1, q + 4 * k + 1 + 1, q + 4 * k + 1 + 1 + 1)
  | n + 1, k, h => by
    unfold seqQ
    rcases Nat.lt_or_ge k n with h' | h'
    · rw [List.getElem?_append_left (by rw [seqQ_len]; exact h')]; exact seqQ_at q n k h'
    · have : k = n := by omega
      subst this
      rw [List.getElem?_append_right (by rw [seqQ_len]; omega), seqQ_len]; simp

set_option maxRecDepth 20000 in
set_option maxHeartbeats 2000000 in
theorem c_laws_eqAggregateS (xs ys : List (Int × Int × Int × Int)) : EFn Try.prog 19 [.c (.ro (quads xs)), .c (.ro (quads ys))] [] (fun r S => r = .c (.sc (.bool (decide (xs = ys)))) ∧ S = []) := by
  refine E_fn Try.func19 rfl (Nat.le_of_ble_eq_true rfl) ?_
  refine E_bound (t := 0) (rows := quads xs) rfl fun hb => ?_
  rw [quads_len] at hb
  refine E_seq ?_
  refine E_region' (L := [0]) rfl ?_
  refine x_pure rfl rfl rfl (L_assign rfl) ?_
  refine EOps_nil ?_
  refine E_seq ?_
  refine E_seq ?_
  refine E_region' (L := [0, 1, 2, 3, 4]) rfl ?_
  refine x_pure rfl rfl rfl (L_move rfl) ?_
  refine x_pure rfl rfl rfl (l_len rfl sl_27) ?_
  refine x_pure rfl rfl rfl (L_move rfl) ?_
  refine x_pure rfl rfl rfl (l_len rfl sl_27) ?_
  refine x_pure rfl rfl rfl (L_bin rfl rfl rfl rfl) ?_
  refine EOps_nil ?_
  refine E_cond rfl (fun hc10 => ?_) (fun hc10 => ?_)
  · have hne : xs ≠ ys := fun e => by subst e; simp at hc10
    refine E_seq ?_
    refine E_region' (L := [0]) rfl ?_
    refine x_pure rfl rfl rfl (L_assign rfl) ?_
    refine EOps_nil ?_
    refine E_ret ?_
    refine ⟨_, [], rfl, rfl, ?_, rfl⟩
    simp [AV.ren, ren_sc, ren_ro, AC.ren, AC.ren.rens, ix, rv1, E.get, E.ev, E.cv, E.fill', E.fill, E.slotsOf, hne]
  · have hlen : xs.length = ys.length := by simp [quads_len] at hc10; omega
    refine E_skip ?_
    refine E_seq ?_
    refine E_seq ?_
    refine E_region' (L := [0]) rfl ?_
    refine x_pure rfl rfl rfl (L_assign rfl) ?_
    refine EOps_nil ?_
    refine E_block ?_
    refine e_for (α := Nat) [0, 1, 10] (fun k => [(5, .c (.sc (.int .i64 (k))))]) (fun _ => _) (fun k => k ≤ xs.length ∧ xs.take k = ys.take k) (fun k => xs.length - k) (0) ?_ (rfl) ⟨.inr rfl, trivial⟩ ?_
    · simp
    rintro k ⟨hk, htk⟩
    refine E_seq ?_
    refine E_seq ?_
    refine E_region' (L := [0, 1, 2, 3]) rfl ?_
    refine x_pure rfl rfl rfl (L_move rfl) ?_
    refine x_pure rfl rfl rfl (L_move rfl) ?_
    refine x_pure rfl rfl rfl (l_len rfl sl_27) ?_
    refine x_pure rfl rfl rfl (L_bin rfl rfl rfl rfl) ?_
    refine EOps_nil ?_
    refine E_cond rfl (fun hc14 => ?_) (fun hc14 => ?_)
    · have hc14' : k < (xs).length := by simpa [ints_len, bools_len, pairs_len, quads_len, quints_len] using hc14
      obtain ⟨x, hx⟩ : ∃ x, (xs)[k]? = some x := ⟨_, List.getElem?_eq_getElem hc14'⟩
      obtain ⟨y, hy⟩ : ∃ y, ys[k]? = some y := ⟨_, List.getElem?_eq_getElem (hlen ▸ hc14')⟩
      refine E_skip ?_
      refine E_seq ?_
      refine E_block ?_
      refine E_seq ?_
      refine E_drawT mixed ?_
      refine t_old 0 rfl rfl rfl (L_move rfl) ?_
      refine t_old 1 rfl rfl rfl (L_move rfl) ?_
      refine t_old 2 rfl rfl rfl (L_index rfl rfl (by first | exact i_ro sl_27 ty_106 | exact i_sl sl_27 ty_106)) ?_
      refine t_light 3 rfl rfl rfl (L_load rfl (by first | exact d_bp ty_106 | exact ld_rp ty_106 rfl | exact d_ep ty_106)) ?_
      refine t_old 4 rfl rfl rfl (L_move rfl) ?_
      refine t_old 5 rfl rfl rfl (L_move rfl) ?_
      refine t_old 6 rfl rfl rfl (L_index rfl rfl (by first | exact i_ro sl_27 ty_106 | exact i_sl sl_27 ty_106)) ?_
      refine t_light 7 rfl rfl rfl (L_load rfl (by first | exact d_bp ty_106 | exact ld_rp ty_106 rfl | exact d_ep ty_106)) ?_
      refine t_call 8 rfl rfl rfl rfl rfl ca_85 (c_laws_eqAggregate x y) ?_
      rintro r S ⟨rfl, rfl⟩
      refine t_old 9 rfl rfl rfl (L_not rfl rfl) ?_
      refine T_done (by kernel_rfl) ?_
      refine E_cond rfl (fun hc26 => ?_) (fun hc26 => ?_)
      · have hne : xs ≠ ys := fun e => by subst e; rw [hx] at hy; cases hy; simp at hc26
        refine E_seq ?_
        refine E_region' (L := [0]) rfl ?_
        refine x_pure rfl rfl rfl (L_assign rfl) ?_
        refine EOps_nil ?_
        refine E_ret ?_
        refine ⟨_, [], rfl, rfl, ?_, rfl⟩
        simp [AV.ren, ren_sc, ren_ro, AC.ren, AC.ren.rens, ix, rv1, E.get, E.ev, E.cv, E.fill', E.fill, E.slotsOf, hne]
      · have hxy : x = y := by simpa using hc26
        refine E_skip ?_
        refine E_region' (L := [0, 1, 2]) rfl ?_
        refine x_pure rfl rfl rfl (L_move rfl) ?_
        refine x_pure rfl rfl rfl (by first | exact l_add rfl rfl rfl | exact L_bin rfl rfl rfl rfl) ?_
        refine x_pure rfl rfl rfl (L_assign rfl) ?_
        refine EOps_nil ?_
        refine ⟨k + 1, ?_, ?_, rfl, ⟨.inr rfl, trivial⟩, ⟨.inr rfl, .inr rfl, .inr rfl, trivial⟩⟩
        · first | omega | (dsimp only; omega) | (simp; omega)
        · exact ⟨by omega, by rw [List.take_add_one, List.take_add_one, htk, hx, hy, hxy]⟩
    · have hk' : xs.length ≤ k := by simpa [quads_len] using hc14
      have heq : xs = ys := by rw [List.take_of_length_le hk', List.take_of_length_le (by omega)] at htk; exact htk
      refine E_exit ?_
      refine E_seq ?_
      refine E_region' (L := [0]) rfl ?_
      refine x_pure rfl rfl rfl (L_assign rfl) ?_
      refine EOps_nil ?_
      refine E_ret ?_
      refine ⟨_, [], rfl, rfl, ?_, rfl⟩
      simp [AV.ren, ren_sc, ren_ro, AC.ren, AC.ren.rens, ix, rv1, E.get, E.ev, E.cv, E.fill', E.fill, E.slotsOf, heq]

set_option maxRecDepth 20000 in
set_option maxHeartbeats 2000000 in
theorem c_laws_markAggregateS (e n : Nat) (q : Int) (xs : List (Int × Int × Int × Int)) (hn : xs.length = n) (hb : n ≤ 1048576) (hq : 0 ≤ q ∧ q ≤ 1099511627776) : EFn Try.prog 22 [.c (.sl 0 0 n n), .c (.sc (.int .i64 q))] [.row e 4 (quads xs)] (fun r S => r = .c (.sc (.int .i64 (q + 4 * n))) ∧ S = [.row e 4 (quads (seqQ q n))]) := by
  refine E_fn Try.func22 rfl (Nat.le_of_ble_eq_true rfl) ?_
  refine E_seq ?_
  refine E_region' (L := [0]) rfl ?_
  refine x_pure rfl rfl rfl (L_assign rfl) ?_
  refine EOps_nil ?_
  refine E_seq ?_
  refine E_seq ?_
  refine E_region' (L := [0]) rfl ?_
  refine x_pure rfl rfl rfl (L_assign rfl) ?_
  refine EOps_nil ?_
  refine E_block ?_
  refine e_for (α := Nat) [0, 4] (fun k => [(5, .c (.sc (.int .i64 (k)))), (1, .c (.sc (.int .i64 ((q + 4 * k)))))]) (fun k => [.row e 4 (quads (seqQ q k ++ xs.drop k))]) (fun k => k ≤ n) (fun k => n - k) (0) ?_ (rfl) ⟨.inr rfl, .inr (int_eq (by simp)), trivial⟩ ?_
  · simp
  rintro k hk
  have hlk : (quads (seqQ q k ++ xs.drop k)).length = n := by simp [quads_len, seqQ_len]; omega
  refine E_seq ?_
  refine E_seq ?_
  refine E_region' (L := [0, 1, 2, 3]) rfl ?_
  refine x_pure rfl rfl rfl (L_move rfl) ?_
  refine x_pure rfl rfl rfl (L_move rfl) ?_
  refine x_pure rfl rfl rfl (l_len rfl sl_27) ?_
  refine x_pure rfl rfl rfl (L_bin rfl rfl rfl rfl) ?_
  refine EOps_nil ?_
  refine E_cond rfl (fun hc9 => ?_) (fun hc9 => ?_)
  · have hk0 : k < n := by simpa using hc9
    have hk' : k < xs.length := by omega
    obtain ⟨x, hx, hx', hset⟩ := over_at (seqQ_len q k) hk'
    refine E_skip ?_
    refine E_seq ?_
    refine E_block ?_
    refine E_seq ?_
    refine E_region' (L := [0, 1, 2, 3, 4, 5]) rfl ?_
    refine x_pure rfl rfl rfl (L_move rfl) ?_
    refine x_pure rfl rfl rfl (L_move rfl) ?_
    refine x_pure rfl rfl rfl (L_move rfl) ?_
    refine x_pure rfl rfl rfl (L_index rfl rfl (by first | exact i_ro sl_27 ty_106 | exact i_sl sl_27 ty_106)) ?_
    refine x_pure rfl rfl rfl (l_field rfl fo_106_0) ?_
    refine EOps_go rfl rfl (EOp_store rfl rfl rfl (by first | exact s_bp ty_3 | exact s_ep ty_3) ?_)
    refine EOps_nil ?_
    refine E_seq ?_
    refine E_region' (L := [0, 1, 2]) rfl ?_
    refine x_pure rfl rfl rfl (L_move rfl) ?_
    refine x_pure rfl rfl rfl (by first | exact l_add rfl rfl rfl | exact L_bin rfl rfl rfl rfl) ?_
    refine x_pure rfl rfl rfl (L_assign rfl) ?_
    refine EOps_nil ?_
    refine E_seq ?_
    refine E_region' (L := [0, 1, 2, 3, 4, 5]) rfl ?_
    refine x_pure rfl rfl rfl (L_move rfl) ?_
    refine x_pure rfl rfl rfl (L_move rfl) ?_
    refine x_pure rfl rfl rfl (L_move rfl) ?_
    refine x_pure rfl rfl rfl (L_index rfl rfl (by first | exact i_ro sl_27 ty_106 | exact i_sl sl_27 ty_106)) ?_
    refine x_pure rfl rfl rfl (l_field rfl fo_106_1) ?_
    refine EOps_go rfl rfl (EOp_store rfl rfl rfl (by first | exact s_bp ty_3 | exact s_ep ty_3) ?_)
    refine EOps_nil ?_
    refine E_seq ?_
    refine E_region' (L := [0, 1, 2]) rfl ?_
    refine x_pure rfl rfl rfl (L_move rfl) ?_
    refine x_pure rfl rfl rfl (by first | exact l_add rfl rfl rfl | exact L_bin rfl rfl rfl rfl) ?_
    refine x_pure rfl rfl rfl (L_assign rfl) ?_
    refine EOps_nil ?_
    refine E_seq ?_
    refine E_region' (L := [0, 1, 2, 3, 4, 5]) rfl ?_
    refine x_pure rfl rfl rfl (L_move rfl) ?_
    refine x_pure rfl rfl rfl (L_move rfl) ?_
    refine x_pure rfl rfl rfl (L_move rfl) ?_
    refine x_pure rfl rfl rfl (L_index rfl rfl (by first | exact i_ro sl_27 ty_106 | exact i_sl sl_27 ty_106)) ?_
    refine x_pure rfl rfl rfl (l_field rfl fo_106_2) ?_
    refine x_store rfl rfl rfl rfl rfl (s_ep ty_3 (hr := List.getElem?_set_self (by simp only [List.length_set]; omega))) ?_
    refine EOps_nil ?_
    refine E_seq ?_
    refine E_region' (L := [0, 1, 2]) rfl ?_
    refine x_pure rfl rfl rfl (L_move rfl) ?_
    refine x_pure rfl rfl rfl (by first | exact l_add rfl rfl rfl | exact L_bin rfl rfl rfl rfl) ?_
    refine x_pure rfl rfl rfl (L_assign rfl) ?_
    refine EOps_nil ?_
    refine E_seq ?_
    refine E_region' (L := [0, 1, 2, 3, 4, 5]) rfl ?_
    refine x_pure rfl rfl rfl (L_move rfl) ?_
    refine x_pure rfl rfl rfl (L_move rfl) ?_
    refine x_pure rfl rfl rfl (L_move rfl) ?_
    refine x_pure rfl rfl rfl (L_index rfl rfl (by first | exact i_ro sl_27 ty_106 | exact i_sl sl_27 ty_106)) ?_
    refine x_pure rfl rfl rfl (l_field rfl fo_106_3) ?_
    refine x_store rfl rfl rfl rfl rfl (s_ep ty_3 (hr := List.getElem?_set_self (by simp only [List.length_set]; omega))) ?_
    refine EOps_nil ?_
    refine E_region' (L := [0, 1, 2]) rfl ?_
    refine x_pure rfl rfl rfl (L_move rfl) ?_
    refine x_pure rfl rfl rfl (by first | exact l_add rfl rfl rfl | exact L_bin rfl rfl rfl rfl) ?_
    refine x_pure rfl rfl rfl (L_assign rfl) ?_
    refine EOps_nil ?_
    refine E_region' (L := [0, 1, 2]) rfl ?_
    refine x_pure rfl rfl rfl (L_move rfl) ?_
    refine x_pure rfl rfl rfl (by first | exact l_add rfl rfl rfl | exact L_bin rfl rfl rfl rfl) ?_
    refine x_pure rfl rfl rfl (L_assign rfl) ?_
    refine EOps_nil ?_
    refine ⟨k + 1, ?_, ?_, by
  have hs := hset (q + 4 * k, q + 4 * k + 1, q + 4 * k + 1 + 1, q + 4 * k + 1 + 1 + 1)
  show [Res.row e 4 _] = [Res.row e 4 (quads ((seqQ q k ++ [(q + 4 * (k : Int), q + 4 * (k : Int) + 1, q + 4 * (k : Int) + 1 + 1, q + 4 * (k : Int) + 1 + 1 + 1)]) ++ xs.drop (k + 1)))]
  rw [← hs, ← quads_set]; simp [splice], ⟨.inr rfl, .inr (int_eq (by omega)), trivial⟩, ⟨.inr rfl, .inr rfl, trivial⟩⟩
    · first | omega | (dsimp only; omega) | (simp; omega)
    · first | trivial | omega | (dsimp only; omega) | (simp; omega)
  · have hk1 : n ≤ k := by simpa using hc9
    have hk0 : k = n := by omega
    refine E_exit ?_
    refine E_seq ?_
    refine E_region' (L := [0, 1]) rfl ?_
    refine x_pure rfl rfl rfl (L_move rfl) ?_
    refine x_pure rfl rfl rfl (L_assign rfl) ?_
    refine EOps_nil ?_
    refine E_ret ?_
    subst hk0
    refine ⟨_, [], rfl, rfl, rfl, ?_⟩
    have hd : xs.drop k = [] := List.drop_of_length_le (by omega)
    have hfin : seqQ q k ++ xs.drop k = seqQ q k := by rw [hd, List.append_nil]
    rw [hfin]; rfl

set_option maxRecDepth 20000 in
set_option maxHeartbeats 2000000 in
theorem c_laws_heldAggregateS (n : Nat) (q : Int) (hb : n ≤ 1048576) (hq : 0 ≤ q ∧ q ≤ 1099511627776) : EFn Try.prog 23 [.c (.ro (quads (seqQ q n))), .c (.sc (.int .i64 q))] [] (fun r S => r = .c (.sc (.int .i64 (q + 4 * n))) ∧ S = []) := by
  refine E_fn Try.func23 rfl (Nat.le_of_ble_eq_true rfl) ?_
  refine E_seq ?_
  refine E_region' (L := [0]) rfl ?_
  refine x_pure rfl rfl rfl (L_assign rfl) ?_
  refine EOps_nil ?_
  refine E_seq ?_
  refine E_seq ?_
  refine E_region' (L := [0]) rfl ?_
  refine x_pure rfl rfl rfl (L_assign rfl) ?_
  refine EOps_nil ?_
  refine E_block ?_
  refine e_for (α := Nat) [0] (fun k => [(5, .c (.sc (.int .i64 (k)))), (1, .c (.sc (.int .i64 ((q + 4 * k)))))]) (fun _ => _) (fun k => k ≤ n) (fun k => n - k) (0) ?_ (rfl) ⟨.inr rfl, .inr (int_eq (by simp)), trivial⟩ ?_
  · simp
  rintro k hk
  refine E_seq ?_
  refine E_seq ?_
  refine E_region' (L := [0, 1, 2, 3]) rfl ?_
  refine x_pure rfl rfl rfl (L_move rfl) ?_
  refine x_pure rfl rfl rfl (L_move rfl) ?_
  refine x_pure rfl rfl rfl (l_len rfl sl_27) ?_
  refine x_pure rfl rfl rfl (L_bin rfl rfl rfl rfl) ?_
  refine EOps_nil ?_
  refine E_cond rfl (fun hc9 => ?_) (fun hc9 => ?_)
  · have hk' : k < n := by simpa [quads_len, seqQ_len] using hc9
    have hx := seqQ_at q n k hk'
    refine E_skip ?_
    refine E_seq ?_
    refine E_block ?_
    refine E_seq ?_
    refine E_seq ?_
    refine E_region' (L := [0, 1, 2, 3, 4, 5, 6]) rfl ?_
    refine x_pure rfl rfl rfl (L_move rfl) ?_
    refine x_pure rfl rfl rfl (L_move rfl) ?_
    refine x_pure rfl rfl rfl (L_index rfl rfl (by first | exact i_ro sl_27 ty_106 | exact i_sl sl_27 ty_106)) ?_
    refine x_pure rfl rfl rfl (l_field rfl fo_106_0) ?_
    refine x_light rfl rfl rfl (L_load rfl (by first | exact d_bp ty_3 | exact ld_rp ty_3 rfl | exact d_ep ty_3)) ?_
    refine x_pure rfl rfl rfl (L_move rfl) ?_
    refine x_pure rfl rfl rfl (L_bin rfl rfl rfl rfl) ?_
    refine EOps_nil ?_
    refine E_cond rfl (fun hc18 => ?_) (fun hc18 => ?_)
    · simp at hc18
    · refine E_skip ?_
      refine E_seq ?_
      refine E_region' (L := [0, 1, 2]) rfl ?_
      refine x_pure rfl rfl rfl (L_move rfl) ?_
      refine x_pure rfl rfl rfl (by first | exact l_add rfl rfl rfl | exact L_bin rfl rfl rfl rfl) ?_
      refine x_pure rfl rfl rfl (L_assign rfl) ?_
      refine EOps_nil ?_
      refine E_seq ?_
      refine E_seq ?_
      refine E_region' (L := [0, 1, 2, 3, 4, 5, 6]) rfl ?_
      refine x_pure rfl rfl rfl (L_move rfl) ?_
      refine x_pure rfl rfl rfl (L_move rfl) ?_
      refine x_pure rfl rfl rfl (L_index rfl rfl (by first | exact i_ro sl_27 ty_106 | exact i_sl sl_27 ty_106)) ?_
      refine x_pure rfl rfl rfl (l_field rfl fo_106_1) ?_
      refine x_light rfl rfl rfl (L_load rfl (by first | exact d_bp ty_3 | exact ld_rp ty_3 rfl | exact d_ep ty_3)) ?_
      refine x_pure rfl rfl rfl (L_move rfl) ?_
      refine x_pure rfl rfl rfl (L_bin rfl rfl rfl rfl) ?_
      refine EOps_nil ?_
      refine E_cond rfl (fun hc27 => ?_) (fun hc27 => ?_)
      · simp at hc27
      · refine E_skip ?_
        refine E_seq ?_
        refine E_region' (L := [0, 1, 2]) rfl ?_
        refine x_pure rfl rfl rfl (L_move rfl) ?_
        refine x_pure rfl rfl rfl (by first | exact l_add rfl rfl rfl | exact L_bin rfl rfl rfl rfl) ?_
        refine x_pure rfl rfl rfl (L_assign rfl) ?_
        refine EOps_nil ?_
        refine E_seq ?_
        refine E_seq ?_
        refine E_region' (L := [0, 1, 2, 3, 4, 5, 6]) rfl ?_
        refine x_pure rfl rfl rfl (L_move rfl) ?_
        refine x_pure rfl rfl rfl (L_move rfl) ?_
        refine x_pure rfl rfl rfl (L_index rfl rfl (by first | exact i_ro sl_27 ty_106 | exact i_sl sl_27 ty_106)) ?_
        refine x_pure rfl rfl rfl (l_field rfl fo_106_2) ?_
        refine x_light rfl rfl rfl (L_load rfl (by first | exact d_bp ty_3 | exact ld_rp ty_3 rfl | exact d_ep ty_3)) ?_
        refine x_pure rfl rfl rfl (L_move rfl) ?_
        refine x_pure rfl rfl rfl (L_bin rfl rfl rfl rfl) ?_
        refine EOps_nil ?_
        refine E_cond rfl (fun hc36 => ?_) (fun hc36 => ?_)
        · simp at hc36
        · refine E_skip ?_
          refine E_seq ?_
          refine E_region' (L := [0, 1, 2]) rfl ?_
          refine x_pure rfl rfl rfl (L_move rfl) ?_
          refine x_pure rfl rfl rfl (by first | exact l_add rfl rfl rfl | exact L_bin rfl rfl rfl rfl) ?_
          refine x_pure rfl rfl rfl (L_assign rfl) ?_
          refine EOps_nil ?_
          refine E_seq ?_
          refine E_seq ?_
          refine E_region' (L := [0, 1, 2, 3, 4, 5, 6]) rfl ?_
          refine x_pure rfl rfl rfl (L_move rfl) ?_
          refine x_pure rfl rfl rfl (L_move rfl) ?_
          refine x_pure rfl rfl rfl (L_index rfl rfl (by first | exact i_ro sl_27 ty_106 | exact i_sl sl_27 ty_106)) ?_
          refine x_pure rfl rfl rfl (l_field rfl fo_106_3) ?_
          refine x_light rfl rfl rfl (L_load rfl (by first | exact d_bp ty_3 | exact ld_rp ty_3 rfl | exact d_ep ty_3)) ?_
          refine x_pure rfl rfl rfl (L_move rfl) ?_
          refine x_pure rfl rfl rfl (L_bin rfl rfl rfl rfl) ?_
          refine EOps_nil ?_
          refine E_cond rfl (fun hc45 => ?_) (fun hc45 => ?_)
          · simp at hc45
          · refine E_skip ?_
            refine E_region' (L := [0, 1, 2]) rfl ?_
            refine x_pure rfl rfl rfl (L_move rfl) ?_
            refine x_pure rfl rfl rfl (by first | exact l_add rfl rfl rfl | exact L_bin rfl rfl rfl rfl) ?_
            refine x_pure rfl rfl rfl (L_assign rfl) ?_
            refine EOps_nil ?_
            refine E_region' (L := [0, 1, 2]) rfl ?_
            refine x_pure rfl rfl rfl (L_move rfl) ?_
            refine x_pure rfl rfl rfl (by first | exact l_add rfl rfl rfl | exact L_bin rfl rfl rfl rfl) ?_
            refine x_pure rfl rfl rfl (L_assign rfl) ?_
            refine EOps_nil ?_
            refine ⟨k + 1, ?_, ?_, rfl, ⟨.inr rfl, .inr (int_eq (by omega)), trivial⟩, ⟨.inr rfl, trivial⟩⟩
            · first | omega | (dsimp only; omega) | (simp; omega)
            · first | trivial | omega | (dsimp only; omega) | (simp; omega)
  · have hk1 : n ≤ k := by simpa [quads_len, seqQ_len] using hc9
    have hk0 : k = n := by omega
    refine E_exit ?_
    refine E_seq ?_
    refine E_region' (L := [0, 1]) rfl ?_
    refine x_pure rfl rfl rfl (L_move rfl) ?_
    refine x_pure rfl rfl rfl (L_assign rfl) ?_
    refine EOps_nil ?_
    refine E_ret ?_
    subst hk0
    exact ⟨_, [], rfl, rfl, rfl, rfl⟩

end Go.Proofs.Ytkaikajjhhnifaa.E
