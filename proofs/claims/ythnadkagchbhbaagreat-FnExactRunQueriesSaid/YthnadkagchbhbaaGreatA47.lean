/- Walks through functions, by program out of the session's annotations. -/
import Derived.Test.YthnadkagchbhbaaGreatA42
import Derived.Test.YthnadkagchbhbaaGreatA37
import Derived.Test.YthnadkagchbhbaaGreatA18
import Derived.Test.YthnadkagchbhbaaGreatRS
namespace Go.Proofs.YthnadkagchbhbaaGreat.E
open Go Go.RowKit Go.Proofs
set_option linter.unusedVariables false
set_option linter.unusedSimpArgs false

theorem sortI_pw (xs : List Int) : List.Pairwise (fun a b : Int => a ≤ b) (sortI xs) := by
 have h := List.pairwise_mergeSort (le := fun x y : Int => decide (x ≤ y)) (by intro a b c; simp; omega) (by intro a b; simp; omega) xs
 exact h.imp (by intro a b hab; simpa using hab)
theorem sortI_eq {xs ys : List Int} (hp : ys.Perm xs) (hs : List.Pairwise (fun a b : Int => a ≤ b) ys) : ys = sortI xs :=
 List.Perm.eq_of_pairwise (le := fun a b : Int => a ≤ b) (fun a b _ _ h1 h2 => by omega) hs (sortI_pw xs) (hp.trans (sortI_perm xs).symm)
/-- One step of sorting by putting in: the element at k sinks to its place. -/
def sinkI (l : List Int) : Nat → List Int
 | 0 => l
 | k + 1 => if l.getD k 0 > l.getD (k + 1) 0 then sinkI (swp l ((k : Int), ((k + 1 : Nat) : Int))) k else l
def srtI (xs : List Int) : Nat → List Int
 | 0 => xs
 | i + 1 => sinkI (srtI xs i) i
theorem sinkI_len : ∀ (k : Nat) (l : List Int), (sinkI l k).length = l.length
 | 0, l => rfl
 | k + 1, l => by unfold sinkI; split; rw [sinkI_len k, swp_len]; rfl
theorem srtI_len (xs : List Int) : ∀ i, (srtI xs i).length = xs.length
 | 0 => rfl
 | i + 1 => by rw [srtI, sinkI_len, srtI_len xs i]
theorem swp_split (a b : List Int) (x y : Int) : swp (a ++ x :: y :: b) ((a.length : Int), ((a.length + 1 : Nat) : Int)) = a ++ y :: x :: b := by
 unfold swp
 simp only [Int.toNat_natCast]
 have e1 : (a ++ x :: y :: b).getD (a.length + 1) 0 = y := by simp [List.getD]
 have e2 : (a ++ x :: y :: b).getD a.length 0 = x := by simp [List.getD]
 rw [e1, e2, List.set_append_right _ _ (Nat.le_refl _), Nat.sub_self, List.set_cons_zero, List.set_append_right _ _ (Nat.le_succ _), show a.length.succ - a.length = 1 by omega]
 rfl
/-- The sinking of x among those in order. -/
theorem sinkI_spec : ∀ (a : List Int) (x : Int) (b : List Int), List.Pairwise (fun p q : Int => p ≤ q) a → ∃ c, sinkI (a ++ x :: b) a.length = c ++ b ∧ c.Perm (a ++ [x]) ∧ List.Pairwise (fun p q : Int => p ≤ q) c := by
 intro a
 induction h : a.length generalizing a with
 | zero =>
  intro x b _
  obtain rfl : a = [] := List.length_eq_zero_iff.1 h
  exact ⟨[x], rfl, List.Perm.refl _, by simp⟩
 | succ n ih =>
  intro x b hs
  obtain ⟨a', y, rfl⟩ : ∃ a' y, a = a' ++ [y] := ⟨a.dropLast, a.getLast (by intro e; simp [e] at h), (List.dropLast_concat_getLast _).symm⟩
  have hn : a'.length = n := by simpa using h
  have hs' := List.pairwise_append.1 hs
  have e0 : a' ++ [y] ++ x :: b = a' ++ y :: x :: b := by simp
  rw [e0]
  have e1 : (a' ++ y :: x :: b).getD n 0 = y := by subst hn; simp [List.getD]
  have e2 : (a' ++ y :: x :: b).getD (n + 1) 0 = x := by subst hn; simp [List.getD]
  unfold sinkI
  rw [e1, e2]
  by_cases hlt : y > x
  ·rw [if_pos hlt]
   have e3 := swp_split a' b y x
   rw [hn] at e3
   rw [e3]
   obtain ⟨c, k1, k2, k3⟩ := ih a' hn x (y :: b) hs'.1
   refine ⟨c ++ [y], by rw [k1]; simp, ?_, ?_⟩
   ·refine (k2.append_right [y]).trans ?_
    simp only [List.append_assoc]
    exact List.Perm.append_left a' (List.Perm.swap _ _ _)
   ·refine List.pairwise_append.2 ⟨k3, by simp, fun p hp q hq => ?_⟩
    obtain rfl : q = y := by simpa using hq
    rcases List.mem_append.1 (k2.mem_iff.1 hp) with h1 | h1
    ·exact hs'.2.2 p h1 _ (by simp)
    ·obtain rfl : p = x := by simpa using h1
     omega
  ·rw [if_neg hlt]
   refine ⟨a' ++ [y] ++ [x], by simp, List.Perm.refl _, ?_⟩
   refine List.pairwise_append.2 ⟨hs, by simp, fun p hp q hq => ?_⟩
   obtain rfl : q = x := by simpa using hq
   rcases List.mem_append.1 hp with h1 | h1
   ·have := hs'.2.2 p h1 y (by simp); omega
   ·obtain rfl : p = y := by simpa using h1
    omega
theorem srtI_spec (xs : List Int) : ∀ i, i ≤ xs.length → ∃ c, srtI xs i = c ++ xs.drop i ∧ c.Perm (xs.take i) ∧ List.Pairwise (fun p q : Int => p ≤ q) c
 | 0, _ => ⟨[], by simp [srtI], by simp, by simp⟩
 | i + 1, hi => by
  obtain ⟨c, k1, k2, k3⟩ := srtI_spec xs i (by omega)
  have hx : xs.drop i = xs[i] :: xs.drop (i + 1) := List.drop_eq_getElem_cons (by omega)
  have hc : c.length = i := by rw [k2.length_eq, List.length_take]; omega
  obtain ⟨d, m1, m2, m3⟩ := sinkI_spec c xs[i] (xs.drop (i + 1)) k3
  refine ⟨d, by rw [srtI, k1, hx, ← m1, hc], m2.trans ?_, m3⟩
  rw [List.take_succ_eq_append_getElem (by omega)]
  exact k2.append_right _
theorem srtI_all (xs : List Int) {i : Nat} (hi : i = xs.length) : srtI xs i = sortI xs := by
 subst hi
 obtain ⟨c, k1, k2, k3⟩ := srtI_spec xs xs.length (Nat.le_refl _)
 rw [k1, List.drop_length, List.append_nil]
 exact sortI_eq (by simpa using k2) k3
theorem sinkI_stop {l : List Int} {k : Nat} {x y : Int} (hk : 0 < k) (hx : l[k - 1]? = some x) (hy : l[k]? = some y) (h : ¬ y < x) : sinkI l k = l := by
 obtain ⟨q, rfl⟩ : ∃ q, k = q + 1 := ⟨k - 1, by omega⟩
 rw [Nat.add_sub_cancel] at hx
 unfold sinkI
 rw [getD_x hx, getD_x hy, if_neg (by omega)]
theorem sinkI_go {l : List Int} {k : Nat} {x y : Int} (hx : l[k]? = some x) (hy : l[k + 1]? = some y) (h : y < x) : sinkI l (k + 1) = sinkI (swp l ((k : Int), ((k + 1 : Nat) : Int))) k := by
 rw [sinkI, getD_x hx, getD_x hy, if_pos h]
theorem srtI_end {xs : List Int} {i : Nat} (h1 : 1 ≤ i) (h2 : i ≤ xs.length ∨ i = 1) (h3 : ¬ i < xs.length) : srtI xs i = sortI xs := by
 rcases Nat.lt_or_ge xs.length i with h | h
 ·obtain rfl : i = 1 := by omega
  obtain rfl : xs = [] := List.length_eq_zero_iff.1 (by omega)
  simp [srtI, sinkI, sortI]
 ·exact srtI_all xs (by omega)
theorem c_swapI (l : List Int) (n : Nat) (i e : Int) (x y : Int) (h1 : 0 ≤ i) (h2 : 0 ≤ e) (hn : l.length = n) (hx : l[i.toNat]? = some x) (hy : l[e.toNat]? = some y) : EFn Tryz.prog 64 [.c (.sl 0 0 n n), .c (.sc (.int .i64 i)), .c (.sc (.int .i64 e))] [.row 3 1 (ints l)] (fun r S => r = .tup [] ∧ S = [.row 3 1 (ints (swp l (i, e)))]) := by
 have h := c_spec_l5Swap l n i.toNat e.toNat x y hn hx hy
 rw [Int.toNat_of_nonneg h1, Int.toNat_of_nonneg h2] at h
 exact h
/-- The rows between two places, in order. -/
def rowsB (c : Crk) (lo hi : Int) : List Int := if isCrk c = true ∧ 0 ≤ lo ∧ lo ≤ hi ∧ hi ≤ c.rows.length then sortI (cutV c.rows lo hi) else []
set_option maxRecDepth 20000 in
set_option maxHeartbeats 2000000 in
theorem c_spec_SortInts (xs : List Int) (hn : xs.length ≤ 1048576) : EFn Tryz.prog 52 [.c (.ro (ints xs))] [] (fun r S => r = .c (.sl 0 0 (sortI xs).length (sortI xs).length) ∧ S = [.row 3 1 (ints (sortI xs))]) := by
  refine E_fn Tryz.func52 rfl (Nat.le_of_ble_eq_true rfl) ?_
  refine E_G (n := 0) rfl ?_
  refine G_seq ?_
  refine G_region' (L := [0]) rfl ?_
  refine xas ?_
  refine EOps_nil ?_
  refine G_seq ?_
  refine G_region' (L := [0, 1, 2, 3]) rfl ?_
  refine EOps_go rfl rfl (Heavy.op (H_bslice rfl rfl (by decide) sl_22 ty_3 za_3 ⟨rfl, by decide⟩ (by decide) rfl rfl rfl rfl ?_))
  refine xmv ?_
  refine EOps_go rfl rfl (EOp_append (news := (ints xs)) rfl rfl (by decide) sl_22 ty_3 by_3 za_3 ⟨rfl, by decide⟩ rfl (by first | rfl | assumption) (by first | assumption | exact ints_len _ | exact pairs_len _ | exact quads_len _ | exact quints_len _ | exact bools_len _ | (simp [ints_len, bools_len, pairs_len, quads_len, quints_len, part_len, *]; done) | (simp [ints_len, bools_len, pairs_len, quads_len, quints_len]; omega) | rfl) (by first | (refine lend_whole rfl ?_; first | assumption | exact ints_len _ | exact pairs_len _ | exact quads_len _ | exact quints_len _ | exact bools_len _ | (simp [ints_len, bools_len, pairs_len, quads_len, quints_len, part_len, *]; done) | (simp [ints_len, bools_len, pairs_len, quads_len, quints_len]; omega) | rfl) | rfl | simp [E.lend, lendC]) (by first | exact ints_row _ | exact pairs_row _ | exact quads_row _ | exact quints_row _ | exact bools_row _ | (intro r hr; simp [chunk] at hr; subst hr; exact ⟨rfl, rfl⟩)) (by simp [ints_len, bools_len, pairs_len, quads_len, quints_len, chunk]; omega) ?_)
  refine xas ?_
  refine EOps_nil ?_
  refine G_seq ?_
  refine G_seq ?_
  refine G_region' (L := [0]) rfl ?_
  refine xas ?_
  refine EOps_nil ?_
  refine G_block ?_
  refine g_forD (α := Nat) [0, 2, 3] (fun i => [(4, .c (.sc (.int .i64 (i))))]) (fun i => [.row 3 1 (ints (srtI xs i))]) (fun i => 1 ≤ i ∧ (i ≤ xs.length ∨ i = 1)) (fun i => xs.length - i) (1) ?_ (rfl) ⟨.inr rfl, trivial⟩ ?_
  · exact ⟨Nat.le_refl _, .inr rfl⟩
  rintro i ⟨hi1, hi2⟩
  have hil := srtI_len xs i
  refine G_seq ?_
  refine G_seq ?_
  refine G_region' (L := [0, 1, 2, 3]) rfl ?_
  refine xmv ?_
  refine xmv ?_
  refine x_pure rfl rfl rfl (l_len rfl sl_22) ?_
  refine x_pure rfl rfl rfl (L_bin rfl rfl rfl rfl) ?_
  refine EOps_nil ?_
  refine G_cond rfl (fun hc12 => ?_) (fun hc12 => ?_)
  · have hlt : i < xs.length := by simpa [ints_len] using hc12
    refine G_skip ?_
    refine G_seq ?_
    refine G_block ?_
    refine G_seq ?_
    refine G_region' (L := [0, 1]) rfl ?_
    refine xmv ?_
    refine xas ?_
    refine EOps_nil ?_
    refine G_block ?_
    refine g_forD (α := Nat × List Int) [0, 2, 3, 4, 12] (fun (k, cur) => [(5, .c (.sc (.int .i64 (k))))]) (fun (k, cur) => [.row 3 1 (ints cur)]) (fun (k, cur) => k ≤ i ∧ cur.length = xs.length ∧ sinkI cur k = srtI xs (i + 1)) (fun (k, cur) => k) ((i, srtI xs i)) ?_ (rfl) ⟨.inr rfl, trivial⟩ ?_
    · exact ⟨Nat.le_refl _, hil, rfl⟩
    rintro ⟨k, cur⟩ ⟨hki, hlc, hsk⟩
    dsimp only
    refine G_seq ?_
    refine G_seq ?_
    refine G_drawT mixed ?_
    refine t_old 0 rfl rfl rfl (L_move rfl) ?_
    refine t_old 1 rfl rfl rfl (L_bin rfl rfl rfl rfl) ?_
    refine t_old 2 rfl rfl rfl (L_move rfl) ?_
    refine T_split 18 (b := _) rfl rfl (fun hg18 => ?_) (fun hg18 => ?_)
    · have hk0 : 0 < k := by simpa using hg18
      obtain ⟨x, hx⟩ := at_lt (l := cur) (k := ((k : Int) - 1).toNat) (by omega)
      obtain ⟨y, hy⟩ := at_lt (l := cur) (k := k) (by omega)
      refine t_old 3 rfl rfl rfl (L_move rfl) ?_
      refine t_old 4 rfl rfl rfl (L_move rfl) ?_
      refine t_old 5 rfl rfl rfl (by first | exact l_sub rfl rfl rfl | exact L_bin rfl rfl rfl rfl) ?_
      refine t_old 6 rfl rfl rfl (L_index rfl rfl (by first | exact i_ro sl_22 ty_3 | exact i_sl sl_22 ty_3)) ?_
      refine t_light 7 rfl rfl rfl (L_load rfl (by first | exact d_bp ty_3 | exact ld_rp ty_3 rfl | exact d_ep ty_3)) ?_
      refine t_old 8 rfl rfl rfl (L_move rfl) ?_
      refine t_old 9 rfl rfl rfl (L_move rfl) ?_
      refine t_old 10 rfl rfl rfl (L_index rfl rfl (by first | exact i_ro sl_22 ty_3 | exact i_sl sl_22 ty_3)) ?_
      refine t_light 11 rfl rfl rfl (L_load rfl (by first | exact d_bp ty_3 | exact ld_rp ty_3 rfl | exact d_ep ty_3)) ?_
      refine t_old 12 rfl rfl rfl (L_bin rfl rfl rfl rfl) ?_
      refine t_old 13 rfl rfl rfl (L_pick rfl rfl) ?_
      refine T_done (by kernel_rfl) ?_
      refine G_cond rfl (fun hc29 => ?_) (fun hc29 => ?_)
      · have hgt : y < x := by first | simpa using hc29 | (simp at hc29; done)
        have hq : k = (k - 1) + 1 := by omega
        have hx' : cur[k - 1]? = some x := by rw [← hx]; congr 1; omega
        have hgo := sinkI_go (l := cur) (k := k - 1) hx' (by rw [← hq]; exact hy) hgt
        refine G_skip ?_
        refine G_seq ?_
        refine G_block ?_
        refine g_tidy [0, 2, 3, 4, 5, 12, 29] ?_
        refine G_region' (L := [0, 1, 2, 3, 4]) rfl ?_
        refine xmv ?_
        refine xmv ?_
        refine x_pure rfl rfl rfl (by first | exact l_sub rfl rfl rfl | exact L_bin rfl rfl rfl rfl) ?_
        refine xmv ?_
        refine x_frame [0] rfl rfl rfl rfl rfl ca_64 rfl (c_swapI cur (ints xs).length ((k : Int) - 1) (k : Int) x y (by omega) (by omega) (by rw [hlc, ints_len]) hx (by rw [Int.toNat_natCast]; exact hy)) ?_
        rintro r S ⟨r0, S0, ⟨rfl, rfl⟩, rfl, rfl⟩
        refine EOps_nil ?_
        refine G_region' (L := [0, 1, 2]) rfl ?_
        refine xmv ?_
        refine x_pure rfl rfl rfl (by first | exact l_sub rfl rfl rfl | exact L_bin rfl rfl rfl rfl) ?_
        refine xas ?_
        refine EOps_nil ?_
        refine ⟨[0], rfl, (k - 1, swp cur ((k : Int) - 1, (k : Int))), ?_, ?_, rfl, ⟨.inr (int_eq (by dsimp only; omega)), trivial⟩, ⟨.inr rfl, .inr rfl, .inr rfl, .inr rfl, .inr rfl, trivial⟩⟩
        · first | omega | (dsimp only; omega) | (simp; omega)
        · refine ⟨by dsimp only; omega, by dsimp only; rw [swp_len, hlc], ?_⟩
          dsimp only
          rw [← hq] at hgo
          rw [← hsk, hgo, show (((k - 1 : Nat) : Int)) = (k : Int) - 1 by omega]
      · have hcur : cur = srtI xs (i + 1) := by
          first
            | (have h0 : k = 0 := by simpa using hg18
               subst h0
               exact hsk)
            | (have hn : ¬ y < x := by simpa using hc29
               have hx' : cur[k - 1]? = some x := by rw [← hx]; congr 1; omega
               exact (sinkI_stop hk0 hx' hy hn).symm.trans hsk)
        refine G_exit ?_
        refine G_region' (L := [0, 1, 2]) rfl ?_
        refine xmv ?_
        refine x_pure rfl rfl rfl (by first | exact l_add rfl rfl rfl | exact L_bin rfl rfl rfl rfl) ?_
        refine xas ?_
        refine EOps_nil ?_
        refine ⟨[0], rfl, i + 1, ?_, ?_, (by rw [hcur]; rfl), ⟨.inr rfl, trivial⟩, ⟨.inr rfl, .inr rfl, .inr rfl, trivial⟩⟩
        · first | omega | (dsimp only; omega) | (simp; omega)
        · exact ⟨by omega, .inl (by omega)⟩
    · refine t_skip 3 rfl rfl rfl ?_
      refine t_skip 4 rfl rfl rfl ?_
      refine t_skip 5 rfl rfl rfl ?_
      refine t_skip 6 rfl rfl rfl ?_
      refine t_skip 7 rfl rfl rfl ?_
      refine t_skip 8 rfl rfl rfl ?_
      refine t_skip 9 rfl rfl rfl ?_
      refine t_skip 10 rfl rfl rfl ?_
      refine t_skip 11 rfl rfl rfl ?_
      refine t_skip 12 rfl rfl rfl ?_
      refine t_old 13 rfl rfl rfl (L_pick rfl rfl) ?_
      refine T_done (by kernel_rfl) ?_
      refine G_cond rfl (fun hc29 => ?_) (fun hc29 => ?_)
      · exact Bool.noConfusion (hc29 : false = true)
      · have hcur : cur = srtI xs (i + 1) := by
          first
            | (have h0 : k = 0 := by simpa using hg18
               subst h0
               exact hsk)
            | (have hn : ¬ y < x := by simpa using hc29
               have hx' : cur[k - 1]? = some x := by rw [← hx]; congr 1; omega
               exact (sinkI_stop hk0 hx' hy hn).symm.trans hsk)
        refine G_exit ?_
        refine G_region' (L := [0, 1, 2]) rfl ?_
        refine xmv ?_
        refine x_pure rfl rfl rfl (by first | exact l_add rfl rfl rfl | exact L_bin rfl rfl rfl rfl) ?_
        refine xas ?_
        refine EOps_nil ?_
        refine ⟨[0], rfl, i + 1, ?_, ?_, (by rw [hcur]; rfl), ⟨.inr rfl, trivial⟩, ⟨.inr rfl, .inr rfl, .inr rfl, trivial⟩⟩
        · first | omega | (dsimp only; omega) | (simp; omega)
        · exact ⟨by omega, .inl (by omega)⟩
  · have hge : ¬ i < xs.length := by simpa [ints_len] using hc12
    have he := srtI_end hi1 hi2 hge
    refine G_exit ?_
    refine G_seq ?_
    refine G_region' (L := [0, 1]) rfl ?_
    refine xmv ?_
    refine xas ?_
    refine EOps_nil ?_
    refine G_ret ?_
    refine ⟨_, [0], rfl, rfl, ?_, ?_⟩
    · rw [sortI_len, ← ints_len xs]; rfl
    · rw [he]; rfl

set_option maxRecDepth 20000 in
set_option maxHeartbeats 2000000 in
theorem c_impl_SortInts (xs : List Int) (hn : xs.length ≤ 1048576) : EFn Tryz.prog 74 [.c (.ro (ints xs))] [] (fun r S => r = .c (.sl 0 0 (sortI xs).length (sortI xs).length) ∧ S = [.row 3 1 (ints (sortI xs))]) := by
 refine E_fn Tryz.func74 rfl (Nat.le_of_ble_eq_true rfl) ?_
 refine E_seq ?_
 refine E_region' (L := [0]) rfl ?_
 refine xas ?_
 refine EOps_nil ?_
 refine E_seq ?_
 refine E_region' (L := [0, 1, 2]) rfl ?_
 refine xmv ?_
 refine x_call rfl rfl rfl rfl rfl ca_57 (c_slices_Clone___int_int_ xs hn) ?_
 rintro r S ⟨rfl, rfl⟩
 refine xas ?_
 refine EOps_nil ?_
 refine E_seq ?_
 refine E_region' (L := [0, 1]) rfl ?_
 refine xmv ?_
 refine x_frame [0] rfl rfl rfl rfl rfl ca_88 rfl (c_sort xs hn) ?_
 rintro r S ⟨r0, S0, ⟨rfl, rfl⟩, rfl, rfl⟩
 refine EOps_nil ?_
 refine E_seq ?_
 refine E_region' (L := [0, 1]) rfl ?_
 refine xmv ?_
 refine xas ?_
 refine EOps_nil ?_
 refine E_ret ?_
 refine ⟨_, [0], rfl, rfl, ?_, rfl⟩
 rw [sortI_len]; rfl

set_option maxRecDepth 20000 in
set_option maxHeartbeats 2000000 in
theorem c_spec_RowsBetween (c : Crk) (lo hi : Int) (hb : c.vals.length ≤ 1048576 ∧ c.rows.length ≤ 1048576 ∧ c.piv.length ≤ 1048576) : EFn Tryz.prog 40 [.agg (crkC c), .c (.sc (.int .i64 lo)), .c (.sc (.int .i64 hi))] [] (fun r S => r = .c (.sl 0 0 (rowsB c lo hi).length (rowsB c lo hi).length) ∧ S = [.row 3 1 (ints (rowsB c lo hi))]) := by
 refine E_fn Tryz.func40 rfl (Nat.le_of_ble_eq_true rfl) ?_
 refine E_seq ?_
 refine E_region' (L := [0, 1]) rfl ?_
 refine x_box rfl rfl rfl rfl rfl ?_
 refine xas ?_
 refine EOps_nil ?_
 refine E_seq ?_
 refine E_seq ?_
 refine e_tidy [0, 1, 2, 3, 6] ?_
 refine E_region' (L := [0, 1, 2, 3, 4, 5, 6, 7, 8, 9, 10, 11, 12, 13, 14, 15]) rfl ?_
 refine x_light rfl rfl rfl (L_load rfl (by first | exact d_bp ty_29 | exact ld_rp ty_29 rfl | exact d_ep ty_29)) ?_
 refine x_call rfl rfl rfl rfl rfl ca_36 (c_spec_IsCracker c) ?_
 rintro r S ⟨rfl, rfl⟩
 refine x_pure rfl rfl rfl (L_not rfl rfl) ?_
 refine xmv ?_
 refine EOps_split 10 (b := _) rfl (fun hg10 => ?_) (fun hg10 => ?_)
 ·refine x_skip rfl rfl rfl ?_
  refine x_skip rfl rfl rfl ?_
  refine x_skip rfl rfl rfl ?_
  refine x_skip rfl rfl rfl ?_
  refine x_pure rfl rfl rfl (L_pick rfl rfl) ?_
  refine xmv ?_
  refine x_skip rfl rfl rfl ?_
  refine x_skip rfl rfl rfl ?_
  refine x_skip rfl rfl rfl ?_
  refine x_skip rfl rfl rfl ?_
  refine x_skip rfl rfl rfl ?_
  refine x_pure rfl rfl rfl (L_pick rfl rfl) ?_
  refine EOps_nil ?_
  refine E_cond rfl (fun hc22 => ?_) (fun hc22 => ?_)
  ·have he : rowsB c lo hi = [] := by
    rw [rowsB, if_neg]
    rintro ⟨q1, q2, q3, q4⟩
    first
     | (rw [q1] at hg10; exact Bool.noConfusion hg10)
     | (simp [isIn] at hg16; omega)
     | (simp [ints_len] at hc22; omega)
   refine E_seq ?_
   refine E_region' (L := [0, 1]) rfl ?_
   refine EOps_go rfl rfl (Heavy.op (H_bslice rfl rfl (by decide) sl_22 ty_3 za_3 ⟨rfl, by decide⟩ (by decide) rfl rfl rfl rfl ?_))
   refine xas ?_
   refine EOps_nil ?_
   refine E_ret ?_
   rw [he]
   exact ⟨_, [1], rfl, rfl, rfl, rfl⟩
  ·exact Bool.noConfusion (hc22 : true = false)
 ·refine xmv ?_
  refine xmv ?_
  refine x_call rfl rfl rfl rfl rfl ca_34 (c_spec_l1In lo 0 hi) ?_
  rintro r S ⟨rfl, rfl⟩
  refine x_pure rfl rfl rfl (L_not rfl rfl) ?_
  refine x_pure rfl rfl rfl (L_pick rfl rfl) ?_
  refine xmv ?_
  refine EOps_split 16 (b := _) rfl (fun hg16 => ?_) (fun hg16 => ?_)
  ·refine x_skip rfl rfl rfl ?_
   refine x_skip rfl rfl rfl ?_
   refine x_skip rfl rfl rfl ?_
   refine x_skip rfl rfl rfl ?_
   refine x_skip rfl rfl rfl ?_
   refine x_pure rfl rfl rfl (L_pick rfl rfl) ?_
   refine EOps_nil ?_
   refine E_cond rfl (fun hc22 => ?_) (fun hc22 => ?_)
   ·have he : rowsB c lo hi = [] := by
     rw [rowsB, if_neg]
     rintro ⟨q1, q2, q3, q4⟩
     first
      | (rw [q1] at hg10; exact Bool.noConfusion hg10)
      | (simp [isIn] at hg16; omega)
      | (simp [ints_len] at hc22; omega)
    refine E_seq ?_
    refine E_region' (L := [0, 1]) rfl ?_
    refine EOps_go rfl rfl (Heavy.op (H_bslice rfl rfl (by decide) sl_22 ty_3 za_3 ⟨rfl, by decide⟩ (by decide) rfl rfl rfl rfl ?_))
    refine xas ?_
    refine EOps_nil ?_
    refine E_ret ?_
    rw [he]
    exact ⟨_, [1], rfl, rfl, rfl, rfl⟩
   ·exact Bool.noConfusion (hc22 : true = false)
  ·refine xmv ?_
   refine x_pure rfl rfl rfl (l_field rfl fo_29_1) ?_
   refine x_light rfl rfl rfl (L_load rfl (by first | exact d_bp ty_22 | exact ld_rp ty_22 rfl | exact d_ep ty_22)) ?_
   refine x_pure rfl rfl rfl (l_len rfl sl_22) ?_
   refine x_pure rfl rfl rfl (L_bin rfl rfl rfl rfl) ?_
   refine x_pure rfl rfl rfl (L_pick rfl rfl) ?_
   refine EOps_nil ?_
   refine E_cond rfl (fun hc22 => ?_) (fun hc22 => ?_)
   ·have he : rowsB c lo hi = [] := by
     rw [rowsB, if_neg]
     rintro ⟨q1, q2, q3, q4⟩
     first
      | (rw [q1] at hg10; exact Bool.noConfusion hg10)
      | (simp [isIn] at hg16; omega)
      | (simp [ints_len] at hc22; omega)
    refine E_seq ?_
    refine E_region' (L := [0, 1]) rfl ?_
    refine EOps_go rfl rfl (Heavy.op (H_bslice rfl rfl (by decide) sl_22 ty_3 za_3 ⟨rfl, by decide⟩ (by decide) rfl rfl rfl rfl ?_))
    refine xas ?_
    refine EOps_nil ?_
    refine E_ret ?_
    rw [he]
    exact ⟨_, [1], rfl, rfl, rfl, rfl⟩
   ·have hcc : isCrk c = true ∧ 0 ≤ lo ∧ lo ≤ hi ∧ hi ≤ c.rows.length := by
     simp [isIn] at hg16
     simp [ints_len] at hc22
     refine ⟨?_, by omega, by omega, by omega⟩
     simpa using hg10
    have he : rowsB c lo hi = sortI (cutV c.rows lo hi) := by rw [rowsB, if_pos hcc]
    have hle : (cutV c.rows lo hi).length ≤ 1048576 := by rw [cutV, List.length_take]; omega
    refine E_skip ?_
    refine E_seq ?_
    refine e_tidy [0, 1, 2, 3, 6, 22] ?_
    refine E_region' (L := [0, 1, 2, 3, 4, 5, 6]) rfl ?_
    refine x_pure rfl rfl rfl (l_field rfl fo_29_1) ?_
    refine x_light rfl rfl rfl (L_load rfl (by first | exact d_bp ty_22 | exact ld_rp ty_22 rfl | exact d_ep ty_22)) ?_
    refine xmv ?_
    refine xmv ?_
    refine x_pure rfl rfl rfl (Pure.as (L_slice_roI (l := lo) (h := hi) rfl sl_22 ty_3 rfl rfl rfl (by first | omega | (simp [ints_len, pairs_len, quads_len, quints_len, bools_len]; omega) | (simp [ints_len, pairs_len, quads_len, quints_len, bools_len] at *; omega)) (by first | omega | (simp [ints_len, pairs_len, quads_len, quints_len, bools_len]; omega) | (simp [ints_len, pairs_len, quads_len, quints_len, bools_len] at *; omega)) (by first | omega | (simp [ints_len, pairs_len, quads_len, quints_len, bools_len]; omega) | (simp [ints_len, pairs_len, quads_len, quints_len, bools_len] at *; omega)) (by first | exact fun r hr => (ints_row _ r hr).1 | exact fun r hr => (pairs_row _ r hr).1 | exact fun r hr => (quads_row _ r hr).1 | exact fun r hr => (quints_row _ r hr).1 | exact fun r hr => (bools_row _ r hr).1)) (y' := .c (.ro (ints (cutV c.rows lo hi)))) (by first | (simp [ints_cut, pairs_cut, bools_cut, ints_take, pairs_take, bools_take]; done) | (simp [ints_cut, pairs_cut, bools_cut, ints_take, pairs_take, bools_take]; rfl))) ?_
    refine x_call rfl rfl rfl rfl rfl ca_52 (c_spec_SortInts (cutV c.rows lo hi) hle) ?_
    rintro r S ⟨rfl, rfl⟩
    refine xas ?_
    refine EOps_nil ?_
    refine E_ret ?_
    rw [he]
    exact ⟨_, [1], rfl, rfl, rfl, rfl⟩

set_option maxRecDepth 20000 in
set_option maxHeartbeats 2000000 in
theorem c_impl_RowsBetween (c : Crk) (lo hi : Int) (hb : c.vals.length ≤ 1048576 ∧ c.rows.length ≤ 1048576 ∧ c.piv.length ≤ 1048576) : EFn Tryz.prog 60 [.agg (crkC c), .c (.sc (.int .i64 lo)), .c (.sc (.int .i64 hi))] [] (fun r S => r = .c (.sl 0 0 (rowsB c lo hi).length (rowsB c lo hi).length) ∧ S = [.row 3 1 (ints (rowsB c lo hi))]) := by
 refine E_fn Tryz.func60 rfl (Nat.le_of_ble_eq_true rfl) ?_
 refine E_seq ?_
 refine E_region' (L := [0, 1]) rfl ?_
 refine x_box rfl rfl rfl rfl rfl ?_
 refine xas ?_
 refine EOps_nil ?_
 refine E_seq ?_
 refine E_seq ?_
 refine e_tidy [0, 1, 2, 3, 6] ?_
 refine E_region' (L := [0, 1, 2, 3, 4, 5, 6, 7, 8, 9, 10, 11, 12, 13, 14, 15, 16, 17, 18]) rfl ?_
 refine x_light rfl rfl rfl (L_load rfl (by first | exact d_bp ty_29 | exact ld_rp ty_29 rfl | exact d_ep ty_29)) ?_
 refine x_call rfl rfl rfl rfl rfl ca_73 (c_impl_IsCracker c) ?_
 rintro r S ⟨rfl, rfl⟩
 refine x_pure rfl rfl rfl (L_not rfl rfl) ?_
 refine xmv ?_
 refine EOps_split 10 (b := _) rfl (fun hg10 => ?_) (fun hg10 => ?_)
 ·refine x_skip rfl rfl rfl ?_
  refine x_skip rfl rfl rfl ?_
  refine x_pure rfl rfl rfl (L_pick rfl rfl) ?_
  refine xmv ?_
  refine x_skip rfl rfl rfl ?_
  refine x_skip rfl rfl rfl ?_
  refine x_skip rfl rfl rfl ?_
  refine x_pure rfl rfl rfl (L_pick rfl rfl) ?_
  refine xmv ?_
  refine x_skip rfl rfl rfl ?_
  refine x_skip rfl rfl rfl ?_
  refine x_skip rfl rfl rfl ?_
  refine x_skip rfl rfl rfl ?_
  refine x_skip rfl rfl rfl ?_
  refine x_pure rfl rfl rfl (L_pick rfl rfl) ?_
  refine EOps_nil ?_
  refine E_cond rfl (fun hc25 => ?_) (fun hc25 => ?_)
  ·have he : rowsB c lo hi = [] := by
    rw [rowsB, if_neg]
    rintro ⟨q1, q2, q3, q4⟩
    first
     | (rw [q1] at hg10; exact Bool.noConfusion hg10)
     | (simp at hg14; omega)
     | (simp at hg19; omega)
     | (simp [ints_len] at hc25; omega)
   refine E_seq ?_
   refine E_region' (L := [0]) rfl ?_
   refine xas ?_
   refine EOps_nil ?_
   refine E_ghostS 6 3 1 rfl (by decide) ?_
   refine E_ret ?_
   rw [he]
   exact ⟨_, [1], rfl, rfl, rfl, rfl⟩
  ·exact Bool.noConfusion (hc25 : true = false)
 ·refine xmv ?_
  refine x_pure rfl rfl rfl (L_bin rfl rfl rfl rfl) ?_
  refine x_pure rfl rfl rfl (L_pick rfl rfl) ?_
  refine xmv ?_
  refine EOps_split 14 (b := _) rfl (fun hg14 => ?_) (fun hg14 => ?_)
  ·refine x_skip rfl rfl rfl ?_
   refine x_skip rfl rfl rfl ?_
   refine x_skip rfl rfl rfl ?_
   refine x_pure rfl rfl rfl (L_pick rfl rfl) ?_
   refine xmv ?_
   refine x_skip rfl rfl rfl ?_
   refine x_skip rfl rfl rfl ?_
   refine x_skip rfl rfl rfl ?_
   refine x_skip rfl rfl rfl ?_
   refine x_skip rfl rfl rfl ?_
   refine x_pure rfl rfl rfl (L_pick rfl rfl) ?_
   refine EOps_nil ?_
   refine E_cond rfl (fun hc25 => ?_) (fun hc25 => ?_)
   ·have he : rowsB c lo hi = [] := by
     rw [rowsB, if_neg]
     rintro ⟨q1, q2, q3, q4⟩
     first
      | (rw [q1] at hg10; exact Bool.noConfusion hg10)
      | (simp at hg14; omega)
      | (simp at hg19; omega)
      | (simp [ints_len] at hc25; omega)
    refine E_seq ?_
    refine E_region' (L := [0]) rfl ?_
    refine xas ?_
    refine EOps_nil ?_
    refine E_ghostS 6 3 1 rfl (by decide) ?_
    refine E_ret ?_
    rw [he]
    exact ⟨_, [1], rfl, rfl, rfl, rfl⟩
   ·exact Bool.noConfusion (hc25 : true = false)
  ·refine xmv ?_
   refine xmv ?_
   refine x_pure rfl rfl rfl (L_bin rfl rfl rfl rfl) ?_
   refine x_pure rfl rfl rfl (L_pick rfl rfl) ?_
   refine xmv ?_
   refine EOps_split 19 (b := _) rfl (fun hg19 => ?_) (fun hg19 => ?_)
   ·refine x_skip rfl rfl rfl ?_
    refine x_skip rfl rfl rfl ?_
    refine x_skip rfl rfl rfl ?_
    refine x_skip rfl rfl rfl ?_
    refine x_skip rfl rfl rfl ?_
    refine x_pure rfl rfl rfl (L_pick rfl rfl) ?_
    refine EOps_nil ?_
    refine E_cond rfl (fun hc25 => ?_) (fun hc25 => ?_)
    ·have he : rowsB c lo hi = [] := by
      rw [rowsB, if_neg]
      rintro ⟨q1, q2, q3, q4⟩
      first
       | (rw [q1] at hg10; exact Bool.noConfusion hg10)
       | (simp at hg14; omega)
       | (simp at hg19; omega)
       | (simp [ints_len] at hc25; omega)
     refine E_seq ?_
     refine E_region' (L := [0]) rfl ?_
     refine xas ?_
     refine EOps_nil ?_
     refine E_ghostS 6 3 1 rfl (by decide) ?_
     refine E_ret ?_
     rw [he]
     exact ⟨_, [1], rfl, rfl, rfl, rfl⟩
    ·exact Bool.noConfusion (hc25 : true = false)
   ·refine xmv ?_
    refine x_pure rfl rfl rfl (l_field rfl fo_29_1) ?_
    refine x_light rfl rfl rfl (L_load rfl (by first | exact d_bp ty_22 | exact ld_rp ty_22 rfl | exact d_ep ty_22)) ?_
    refine x_pure rfl rfl rfl (l_len rfl sl_22) ?_
    refine x_pure rfl rfl rfl (L_bin rfl rfl rfl rfl) ?_
    refine x_pure rfl rfl rfl (L_pick rfl rfl) ?_
    refine EOps_nil ?_
    refine E_cond rfl (fun hc25 => ?_) (fun hc25 => ?_)
    ·have he : rowsB c lo hi = [] := by
      rw [rowsB, if_neg]
      rintro ⟨q1, q2, q3, q4⟩
      first
       | (rw [q1] at hg10; exact Bool.noConfusion hg10)
       | (simp at hg14; omega)
       | (simp at hg19; omega)
       | (simp [ints_len] at hc25; omega)
     refine E_seq ?_
     refine E_region' (L := [0]) rfl ?_
     refine xas ?_
     refine EOps_nil ?_
     refine E_ghostS 6 3 1 rfl (by decide) ?_
     refine E_ret ?_
     rw [he]
     exact ⟨_, [1], rfl, rfl, rfl, rfl⟩
    ·have hcc : isCrk c = true ∧ 0 ≤ lo ∧ lo ≤ hi ∧ hi ≤ c.rows.length := by
      simp at hg14
      simp at hg19
      simp [ints_len] at hc25
      refine ⟨?_, by omega, by omega, by omega⟩
      simpa using hg10
     have he : rowsB c lo hi = sortI (cutV c.rows lo hi) := by rw [rowsB, if_pos hcc]
     have hle : (cutV c.rows lo hi).length ≤ 1048576 := by rw [cutV, List.length_take]; omega
     refine E_skip ?_
     refine E_seq ?_
     refine e_tidy [0, 1, 2, 3, 6, 25] ?_
     refine E_region' (L := [0, 1, 2, 3, 4, 5, 6]) rfl ?_
     refine x_pure rfl rfl rfl (l_field rfl fo_29_1) ?_
     refine x_light rfl rfl rfl (L_load rfl (by first | exact d_bp ty_22 | exact ld_rp ty_22 rfl | exact d_ep ty_22)) ?_
     refine xmv ?_
     refine xmv ?_
     refine x_pure rfl rfl rfl (Pure.as (L_slice_roI (l := lo) (h := hi) rfl sl_22 ty_3 rfl rfl rfl (by first | omega | (simp [ints_len, pairs_len, quads_len, quints_len, bools_len]; omega) | (simp [ints_len, pairs_len, quads_len, quints_len, bools_len] at *; omega)) (by first | omega | (simp [ints_len, pairs_len, quads_len, quints_len, bools_len]; omega) | (simp [ints_len, pairs_len, quads_len, quints_len, bools_len] at *; omega)) (by first | omega | (simp [ints_len, pairs_len, quads_len, quints_len, bools_len]; omega) | (simp [ints_len, pairs_len, quads_len, quints_len, bools_len] at *; omega)) (by first | exact fun r hr => (ints_row _ r hr).1 | exact fun r hr => (pairs_row _ r hr).1 | exact fun r hr => (quads_row _ r hr).1 | exact fun r hr => (quints_row _ r hr).1 | exact fun r hr => (bools_row _ r hr).1)) (y' := .c (.ro (ints (cutV c.rows lo hi)))) (by first | (simp [ints_cut, pairs_cut, bools_cut, ints_take, pairs_take, bools_take]; done) | (simp [ints_cut, pairs_cut, bools_cut, ints_take, pairs_take, bools_take]; rfl))) ?_
     refine x_call rfl rfl rfl rfl rfl ca_74 (c_impl_SortInts (cutV c.rows lo hi) hle) ?_
     rintro r S ⟨rfl, rfl⟩
     refine xas ?_
     refine EOps_nil ?_
     refine E_ret ?_
     rw [he]
     exact ⟨_, [1], rfl, rfl, rfl, rfl⟩

end Go.Proofs.YthnadkagchbhbaaGreat.E
