/- Walks through functions, by program out of the session's annotations. -/
import Derived.Test.YthnadkagchbhbaaGreatA187
import Derived.Test.YthnadkagchbhbaaGreatA06
import Derived.Test.YthnadkagchbhbaaGreatA09
namespace Go.Proofs.YthnadkagchbhbaaGreat.E
open Go Go.RowKit Go.Proofs
set_option linter.unusedVariables false
set_option linter.unusedSimpArgs false

theorem nest_get {ls : List (List Int)} {k : Nat} {l : List Int} (h : ls[k]? = some l) : (nest ls)[k]? = some [.sl (ints l)] := by
 rw [nest, List.getElem?_map, h]; rfl
theorem nest_set (ls : List (List Int)) (k : Nat) (l : List Int) : (nest ls).set k [.sl (ints l)] = nest (ls.set k l) := by
 rw [nest, nest, List.map_set]
def totL : List (List Int) → Nat
 | [] => 0
 | l :: ls => l.length + totL ls
theorem totL_app : ∀ (xs ys : List (List Int)), totL (xs ++ ys) = totL xs + totL ys
 | [], ys => by simp [totL]
 | x :: xs, ys => by rw [List.cons_append, totL, totL_app xs ys, totL]; omega
theorem totL_step {ls : List (List Int)} {k : Nat} {l : List Int} (h : ls[k]? = some l) : totL (ls.take (k + 1)) = totL (ls.take k) + l.length := by
 rw [List.take_add_one, h, totL_app]; simp [totL]
theorem totL_take (ls : List (List Int)) (k : Nat) : totL (ls.take k) ≤ totL ls := by
 have := totL_app (ls.take k) (ls.drop k)
 rw [List.take_append_drop] at this
 omega
/-- What is marked from q on, the first k lists. -/
def markN (q : Int) (ls : List (List Int)) : Nat → List (List Int)
 | 0 => []
 | k + 1 => markN q ls k ++ [seqF (q + totL (ls.take k)) (ls.getD k []).length]
theorem markN_len (q : Int) (ls : List (List Int)) : ∀ k, (markN q ls k).length = k
 | 0 => rfl
 | k + 1 => by simp [markN, markN_len q ls k]
theorem markN_at (q : Int) (ls : List (List Int)) : ∀ (n k : Nat), k < n → (markN q ls n)[k]? = some (seqF (q + totL (ls.take k)) (ls.getD k []).length)
 | n + 1, k, h => by
  unfold markN
  rcases Nat.lt_or_ge k n with h' | h'
  ·rw [List.getElem?_append_left (by rw [markN_len]; exact h')]; exact markN_at q ls n k h'
  ·have : k = n := by omega
   subst this
   rw [List.getElem?_append_right (by rw [markN_len]; omega), markN_len]; simp

set_option maxRecDepth 20000 in
set_option maxHeartbeats 2000000 in
theorem c_laws_eqIntSS (xs ys : List (List Int)) : EFn Tryz.prog 11 [.c (.ro (nest xs)), .c (.ro (nest ys))] [] (fun r S => r = .c (.sc (.bool (decide (xs = ys)))) ∧ S = []) := by
 refine E_fn Tryz.func11 rfl (Nat.le_of_ble_eq_true rfl) ?_
 refine E_bound (t := 0) (rows := nest xs) rfl fun hb => ?_
 rw [nest_len] at hb
 refine E_seq ?_
 refine E_region' (L := [0]) rfl ?_
 refine xas ?_
 refine EOps_nil ?_
 refine E_seq ?_
 refine E_seq ?_
 refine E_region' (L := [0, 1, 2, 3, 4]) rfl ?_
 refine xmv ?_
 refine x_pure rfl rfl rfl (l_len rfl sl_30) ?_
 refine xmv ?_
 refine x_pure rfl rfl rfl (l_len rfl sl_30) ?_
 refine x_pure rfl rfl rfl (L_bin rfl rfl rfl rfl) ?_
 refine EOps_nil ?_
 refine E_cond rfl (fun hc10 => ?_) (fun hc10 => ?_)
 ·have hne : xs ≠ ys := fun e => by subst e; simp at hc10
  refine E_seq ?_
  refine E_region' (L := [0]) rfl ?_
  refine xas ?_
  refine EOps_nil ?_
  refine E_ret ?_
  refine ⟨_, [], rfl, rfl, ?_, rfl⟩
  simp [AV.ren, ren_sc, ren_ro, AC.ren, AC.ren.rens, ix, rv1, E.get, E.ev, E.cv, E.fill', E.fill, E.slotsOf, hne]
 ·have hlen : xs.length = ys.length := by simp [nest_len] at hc10; omega
  refine E_skip ?_
  refine E_seq ?_
  refine E_seq ?_
  refine E_region' (L := [0]) rfl ?_
  refine xas ?_
  refine EOps_nil ?_
  refine E_block ?_
  refine e_for (α := Nat) [0, 1, 10] (fun k => [(5, .c (.sc (.int .i64 (k))))]) (fun _ => _) (fun k => k ≤ xs.length ∧ xs.take k = ys.take k) (fun k => xs.length - k) (0) ?_ (rfl) ⟨.inr rfl, trivial⟩ ?_
  ·simp
  rintro k ⟨hk, htk⟩
  refine E_seq ?_
  refine E_seq ?_
  refine E_region' (L := [0, 1, 2, 3]) rfl ?_
  refine xmv ?_
  refine xmv ?_
  refine x_pure rfl rfl rfl (l_len rfl sl_30) ?_
  refine x_pure rfl rfl rfl (L_bin rfl rfl rfl rfl) ?_
  refine EOps_nil ?_
  refine E_cond rfl (fun hc14 => ?_) (fun hc14 => ?_)
  ·have hc14' : k < xs.length := by simpa [nest_len] using hc14
   obtain ⟨x, hx⟩ := at_lt hc14'
   obtain ⟨y, hy⟩ : ∃ y, ys[k]? = some y := ⟨_, List.getElem?_eq_getElem (hlen ▸ hc14')⟩
   have hnx := nest_get hx
   have hny := nest_get hy
   refine E_skip ?_
   refine E_seq ?_
   refine E_block ?_
   refine E_seq ?_
   refine E_drawT mixed ?_
   refine t_old 0 rfl rfl rfl (L_move rfl) ?_
   refine t_old 1 rfl rfl rfl (L_move rfl) ?_
   refine t_old 2 rfl rfl rfl (L_index rfl rfl (by first | exact i_ro sl_30 ty_22 | exact i_sl sl_30 ty_22)) ?_
   refine t_light 3 rfl rfl rfl (L_load rfl (by first | exact d_bp ty_22 | exact ld_rp ty_22 rfl | exact d_ep ty_22)) ?_
   refine t_old 4 rfl rfl rfl (L_move rfl) ?_
   refine t_old 5 rfl rfl rfl (L_move rfl) ?_
   refine t_old 6 rfl rfl rfl (L_index rfl rfl (by first | exact i_ro sl_30 ty_22 | exact i_sl sl_30 ty_22)) ?_
   refine t_light 7 rfl rfl rfl (L_load rfl (by first | exact d_bp ty_22 | exact ld_rp ty_22 rfl | exact d_ep ty_22)) ?_
   refine t_call 8 rfl rfl rfl rfl rfl ca_12 (c_laws_eqIntS x y) ?_
   rintro r S ⟨rfl, rfl⟩
   refine t_old 9 rfl rfl rfl (L_not rfl rfl) ?_
   refine T_done (by kernel_rfl) ?_
   refine E_cond rfl (fun hc26 => ?_) (fun hc26 => ?_)
   ·have hne : xs ≠ ys := fun e => by subst e; rw [hx] at hy; cases hy; simp at hc26
    refine E_seq ?_
    refine E_region' (L := [0]) rfl ?_
    refine xas ?_
    refine EOps_nil ?_
    refine E_ret ?_
    refine ⟨_, [], rfl, rfl, ?_, rfl⟩
    simp [AV.ren, ren_sc, ren_ro, AC.ren, AC.ren.rens, ix, rv1, E.get, E.ev, E.cv, E.fill', E.fill, E.slotsOf, hne]
   ·have hxy : x = y := by simpa using hc26
    refine E_skip ?_
    refine E_region' (L := [0, 1, 2]) rfl ?_
    refine xmv ?_
    refine x_pure rfl rfl rfl (by first | exact l_add rfl rfl rfl | exact L_bin rfl rfl rfl rfl) ?_
    refine xas ?_
    refine EOps_nil ?_
    refine ⟨k + 1, ?_, ?_, rfl, ⟨.inr rfl, trivial⟩, ⟨.inr rfl, .inr rfl, .inr rfl, trivial⟩⟩
    ·first | omega | (dsimp only; omega) | (simp; omega)
    ·exact ⟨by omega, by rw [List.take_add_one, List.take_add_one, htk, hx, hy, hxy]⟩
  ·have hk' : xs.length ≤ k := by simpa [nest_len] using hc14
   have heq : xs = ys := by rw [List.take_of_length_le hk', List.take_of_length_le (by omega)] at htk; exact htk
   refine E_exit ?_
   refine E_seq ?_
   refine E_region' (L := [0]) rfl ?_
   refine xas ?_
   refine EOps_nil ?_
   refine E_ret ?_
   refine ⟨_, [], rfl, rfl, ?_, rfl⟩
   simp [AV.ren, ren_sc, ren_ro, AC.ren, AC.ren.rens, ix, rv1, E.get, E.ev, E.cv, E.fill', E.fill, E.slotsOf, heq]

set_option maxRecDepth 20000 in
set_option maxHeartbeats 2000000 in
theorem c_laws_heldIntSS (q : Int) (ls : List (List Int)) (hb : ls.length ≤ 1048576 ∧ totL ls ≤ 1048576) (hq : 0 ≤ q ∧ q ≤ 1000000000000) : EFn Tryz.prog 19 [.c (.ro (nest (markN q ls ls.length))), .c (.sc (.int .i64 q))] [] (fun r S => r = .c (.sc (.int .i64 (q + totL ls))) ∧ S = []) := by
 refine E_fn Tryz.func19 rfl (Nat.le_of_ble_eq_true rfl) ?_
 refine E_seq ?_
 refine E_region' (L := [0]) rfl ?_
 refine xas ?_
 refine EOps_nil ?_
 refine E_seq ?_
 refine E_seq ?_
 refine E_region' (L := [0]) rfl ?_
 refine xas ?_
 refine EOps_nil ?_
 refine E_block ?_
 refine e_for (α := Nat) [0] (fun k => [(5, .c (.sc (.int .i64 (k)))), (1, .c (.sc (.int .i64 ((q + totL (ls.take k))))))]) (fun _ => _) (fun k => k ≤ ls.length) (fun k => ls.length - k) (0) ?_ (rfl) ⟨.inr rfl, .inr (int_eq (by simp [totL])), trivial⟩ ?_
 ·simp
 rintro k hk
 have htk := totL_take ls k
 refine E_seq ?_
 refine E_seq ?_
 refine E_region' (L := [0, 1, 2, 3]) rfl ?_
 refine xmv ?_
 refine xmv ?_
 refine x_pure rfl rfl rfl (l_len rfl sl_30) ?_
 refine x_pure rfl rfl rfl (L_bin rfl rfl rfl rfl) ?_
 refine EOps_nil ?_
 refine E_cond rfl (fun hc9 => ?_) (fun hc9 => ?_)
 ·have hk' : k < ls.length := by simpa [nest_len, markN_len] using hc9
  obtain ⟨l, hl⟩ := at_lt hk'
  have hgd : ls.getD k [] = l := by rw [List.getD_eq_getElem?_getD, hl]; rfl
  have hat := nest_get (markN_at q ls ls.length k hk')
  rw [hgd] at hat
  have hst := totL_step hl
  have htk1 := totL_take ls (k + 1)
  refine E_skip ?_
  refine E_seq ?_
  refine E_block ?_
  refine E_seq ?_
  refine E_region' (L := [0, 1, 2, 3, 4, 5, 6]) rfl ?_
  refine xmv ?_
  refine xmv ?_
  refine x_pure rfl rfl rfl (L_index rfl rfl (by first | exact i_ro sl_30 ty_22 | exact i_sl sl_30 ty_22)) ?_
  refine x_light rfl rfl rfl (L_load rfl (by first | exact d_bp ty_22 | exact ld_rp ty_22 rfl | exact d_ep ty_22)) ?_
  refine xmv ?_
  refine x_call rfl rfl rfl rfl rfl ca_20 (c_laws_heldIntS l.length (q + totL (ls.take k)) (by omega) (by omega)) ?_
  rintro r S ⟨rfl, rfl⟩
  refine xas ?_
  refine EOps_nil ?_
  refine E_seq ?_
  refine E_region' (L := [0, 1]) rfl ?_
  refine xmv ?_
  refine x_pure rfl rfl rfl (L_bin rfl rfl rfl rfl) ?_
  refine EOps_nil ?_
  refine E_cond rfl (fun hc19 => ?_) (fun hc19 => ?_)
  ·simp at hc19; omega
  ·refine E_skip ?_
   refine E_region' (L := [0, 1, 2]) rfl ?_
   refine xmv ?_
   refine x_pure rfl rfl rfl (by first | exact l_add rfl rfl rfl | exact L_bin rfl rfl rfl rfl) ?_
   refine xas ?_
   refine EOps_nil ?_
   refine ⟨k + 1, ?_, ?_, rfl, ⟨.inr rfl, .inr (int_eq (by rw [totL_step hl]; omega)), trivial⟩, ⟨.inr rfl, trivial⟩⟩
   ·first | omega | (dsimp only; omega) | (simp; omega)
   ·first | trivial | omega | (dsimp only; omega) | (simp; omega)
 ·have hk1 : ls.length ≤ k := by simpa [nest_len, markN_len] using hc9
  have hk0 : k = ls.length := by omega
  refine E_exit ?_
  refine E_seq ?_
  refine E_region' (L := [0, 1]) rfl ?_
  refine xmv ?_
  refine xas ?_
  refine EOps_nil ?_
  refine E_ret ?_
  subst hk0
  refine ⟨_, [], rfl, rfl, ?_, rfl⟩
  simp [AV.ren, ren_sc, ren_ro, AC.ren, AC.ren.rens, ix, rv1, E.get, E.ev, E.cv, E.fill', E.fill, E.slotsOf]

set_option maxRecDepth 20000 in
set_option maxHeartbeats 2000000 in
theorem c_laws_markIntSK (e m n : Nat) (q : Int) (xs : List Int) (hn : xs.length = n) (hb : n ≤ 1048576) (hq : 0 ≤ q ∧ q ≤ 1099511627776) (hm : ∀ r ∈ ints xs, r.length = m) : EFn Tryz.prog 14 [.c (.sl 0 0 n n), .c (.sc (.int .i64 q))] [.row e m (ints xs)] (fun r S => r = .c (.sc (.int .i64 (q + n))) ∧ S = [.row e m (ints (seqF q n))]) := by
 refine E_fn Tryz.func14 rfl (Nat.le_of_ble_eq_true rfl) ?_
 refine E_seq ?_
 refine E_region' (L := [0]) rfl ?_
 refine xas ?_
 refine EOps_nil ?_
 refine E_seq ?_
 refine E_seq ?_
 refine E_region' (L := [0]) rfl ?_
 refine xas ?_
 refine EOps_nil ?_
 refine E_block ?_
 refine e_for (α := Nat) [0, 4] (fun k => [(5, .c (.sc (.int .i64 (k)))), (1, .c (.sc (.int .i64 ((q + k)))))]) (fun k => [.row e m (ints (seqF q k ++ xs.drop k))]) (fun k => k ≤ n) (fun k => n - k) (0) ?_ (rfl) ⟨.inr rfl, .inr (int_eq (by simp)), trivial⟩ ?_
 ·simp
 rintro k hk
 have hlk : (ints (seqF q k ++ xs.drop k)).length = n := by simp [ints_len, seqF_len]; omega
 refine E_seq ?_
 refine E_seq ?_
 refine E_region' (L := [0, 1, 2, 3]) rfl ?_
 refine xmv ?_
 refine xmv ?_
 refine x_pure rfl rfl rfl (l_len rfl sl_22) ?_
 refine x_pure rfl rfl rfl (L_bin rfl rfl rfl rfl) ?_
 refine EOps_nil ?_
 refine E_cond rfl (fun hc9 => ?_) (fun hc9 => ?_)
 ·have hk0 : k < n := by simpa using hc9
  have hk' : k < xs.length := by omega
  obtain ⟨x, hx, hx', hset⟩ := over_at (seqF_len q k) hk'
  obtain rfl : 1 = m := hm [.sc (.int .i64 x)] (List.mem_of_getElem? (ints_at hx))
  refine E_skip ?_
  refine E_seq ?_
  refine E_block ?_
  refine E_seq ?_
  refine E_region' (L := [0, 1, 2, 3, 4]) rfl ?_
  refine xmv ?_
  refine xmv ?_
  refine xmv ?_
  refine x_pure rfl rfl rfl (L_index rfl rfl (by first | exact i_ro sl_22 ty_3 | exact i_sl sl_22 ty_3)) ?_
  refine EOps_go rfl rfl (EOp_store rfl rfl rfl (by first | exact s_bp ty_3 | exact s_ep ty_3) ?_)
  refine EOps_nil ?_
  refine E_region' (L := [0, 1, 2]) rfl ?_
  refine xmv ?_
  refine x_pure rfl rfl rfl (by first | exact l_add rfl rfl rfl | exact L_bin rfl rfl rfl rfl) ?_
  refine xas ?_
  refine EOps_nil ?_
  refine E_region' (L := [0, 1, 2]) rfl ?_
  refine xmv ?_
  refine x_pure rfl rfl rfl (by first | exact l_add rfl rfl rfl | exact L_bin rfl rfl rfl rfl) ?_
  refine xas ?_
  refine EOps_nil ?_
  refine ⟨k + 1, ?_, ?_, by
 have hs := hset (q + k)
 show [Res.row e 1 _] = [Res.row e 1 (ints ((seqF q k ++ [q + (k : Int)]) ++ xs.drop (k + 1)))]
 rw [← hs, ← ints_set]; simp [splice], ⟨.inr rfl, .inr (int_eq (by omega)), trivial⟩, ⟨.inr rfl, .inr rfl, trivial⟩⟩
  ·first | omega | (dsimp only; omega) | (simp; omega)
  ·first | trivial | omega | (dsimp only; omega) | (simp; omega)
 ·have hk1 : n ≤ k := by simpa using hc9
  have hk0 : k = n := by omega
  refine E_exit ?_
  refine E_seq ?_
  refine E_region' (L := [0, 1]) rfl ?_
  refine xmv ?_
  refine xas ?_
  refine EOps_nil ?_
  refine E_ret ?_
  subst hk0
  refine ⟨_, [], rfl, rfl, rfl, ?_⟩
  have hd : xs.drop k = [] := List.drop_of_length_le (by omega)
  have hfin : seqF q k ++ xs.drop k = seqF q k := by rw [hd, List.append_nil]
  rw [hfin]; rfl

set_option maxRecDepth 20000 in
set_option maxHeartbeats 2000000 in
theorem c_laws_markIntSS (e n : Nat) (q : Int) (ls : List (List Int)) (hn : ls.length = n) (hb : ls.length ≤ 1048576 ∧ totL ls ≤ 1048576) (hq : 0 ≤ q ∧ q ≤ 1000000000000) : EFn Tryz.prog 17 [.c (.sl 0 0 n n), .c (.sc (.int .i64 q))] [.row e 1 (nest ls)] (fun r S => r = .c (.sc (.int .i64 (q + totL ls))) ∧ S = [.row e 1 (nest (markN q ls n))]) := by
 refine E_fn Tryz.func17 rfl (Nat.le_of_ble_eq_true rfl) ?_
 refine E_G (n := 1) rfl ?_
 refine G_seq ?_
 refine G_region' (L := [0]) rfl ?_
 refine xas ?_
 refine EOps_nil ?_
 refine G_seq ?_
 refine G_seq ?_
 refine G_region' (L := [0]) rfl ?_
 refine xas ?_
 refine EOps_nil ?_
 refine G_block ?_
 refine g_forD (α := Nat) [0, 4] (fun k => [(5, .c (.sc (.int .i64 (k)))), (1, .c (.sc (.int .i64 ((q + totL (ls.take k))))))]) (fun k => [.row e 1 (nest (markN q ls k ++ ls.drop k))]) (fun k => k ≤ n) (fun k => n - k) (0) ?_ (rfl) ⟨.inr rfl, .inr (int_eq (by simp [totL])), trivial⟩ ?_
 ·simp
 rintro k hk
 have htk := totL_take ls k
 have hlk : (nest (markN q ls k ++ ls.drop k)).length = n := by simp [nest_len, markN_len]; omega
 refine G_seq ?_
 refine G_seq ?_
 refine G_region' (L := [0, 1, 2, 3]) rfl ?_
 refine xmv ?_
 refine xmv ?_
 refine x_pure rfl rfl rfl (l_len rfl sl_30) ?_
 refine x_pure rfl rfl rfl (L_bin rfl rfl rfl rfl) ?_
 refine EOps_nil ?_
 refine G_cond rfl (fun hc9 => ?_) (fun hc9 => ?_)
 ·have hk0 : k < n := by simpa using hc9
  have hk' : k < ls.length := by omega
  obtain ⟨l, hx, hx', hset⟩ := over_at (markN_len q ls k) hk'
  have hgd : ls.getD k [] = l := by rw [List.getD_eq_getElem?_getD, hx]; rfl
  have hst := totL_step hx
  have htk1 := totL_take ls (k + 1)
  refine G_skip ?_
  refine G_seq ?_
  refine G_block ?_
  refine (X_focus 0 k 0 rfl (nest_get hx') rfl).G fun z => ?_
  obtain ⟨⟨v, e1, m1⟩, hm0, hm1⟩ := z
  simp only [List.set_cons_zero, ints_len, List.length_cons, List.length_nil, Nat.zero_add]
  have hl2 : ((nest (markN q ls k ++ ls.drop k)).set k [.sc v]).length = n := by rw [List.length_set]; exact hlk
  have hat : ((nest (markN q ls k ++ ls.drop k)).set k [.sc v])[k]? = some [.sc v] := List.getElem?_set_self (by omega)
  refine G_region' (L := [0, 1, 2, 3, 4, 5, 6]) rfl ?_
  refine xmv ?_
  refine xmv ?_
  refine x_pure rfl rfl rfl (L_index rfl rfl (by first | exact i_ro sl_30 ty_22 | exact i_sl sl_30 ty_22)) ?_
  refine x_light rfl rfl rfl (L_load rfl (by first | exact d_bp ty_22 | exact ld_rp ty_22 rfl | exact d_ep ty_22)) ?_
  refine (X_unpin 15 2 rfl rfl).X fun _ => ?_
  refine xmv ?_
  refine x_frame [1] rfl rfl rfl rfl rfl ca_14 rfl (c_laws_markIntSK e1 m1 l.length (q + totL (ls.take k)) l rfl (by omega) (by omega) hm1) ?_
  rintro r S ⟨r0, S0, ⟨rfl, rfl⟩, rfl, rfl⟩
  refine xas ?_
  refine EOps_nil ?_
  refine (X_absorb 0 k 0 2 1 rfl hat rfl rfl rfl (by rw [ints_len, seqF_len]) (by decide) rfl).G fun _ => ?_
  refine G_region' (L := [0, 1, 2]) rfl ?_
  refine xmv ?_
  refine x_pure rfl rfl rfl (by first | exact l_add rfl rfl rfl | exact L_bin rfl rfl rfl rfl) ?_
  refine xas ?_
  refine EOps_nil ?_
  refine ⟨[], rfl, k + 1, ?_, ?_, by
 have hs := hset (seqF (q + totL (ls.take k)) l.length)
 show [Res.row e 1 _] = [Res.row e 1 (nest ((markN q ls k ++ [seqF (q + totL (ls.take k)) (ls.getD k []).length]) ++ ls.drop (k + 1)))]
 rw [hgd, ← hs, ← nest_set, List.set_set]; rfl, ⟨.inr rfl, .inr (int_eq (by rw [totL_step hx]; omega)), trivial⟩, ⟨.inr rfl, .inr rfl, trivial⟩⟩
  ·first | omega | (dsimp only; omega) | (simp; omega)
  ·first | trivial | omega | (dsimp only; omega) | (simp; omega)
 ·have hk1 : n ≤ k := by simpa using hc9
  have hk0 : k = n := by omega
  refine G_exit ?_
  refine G_seq ?_
  refine G_region' (L := [0, 1]) rfl ?_
  refine xmv ?_
  refine xas ?_
  refine EOps_nil ?_
  refine G_ret ?_
  subst hk0
  refine ⟨_, [], rfl, rfl, ?_, ?_⟩
  ·rw [List.take_of_length_le (by omega)]; rfl
  have hd : ls.drop k = [] := List.drop_of_length_le (by omega)
  have hfin : markN q ls k ++ ls.drop k = markN q ls k := by rw [hd, List.append_nil]
  rw [hfin]; rfl

end Go.Proofs.YthnadkagchbhbaaGreat.E
