/- slices.Insert at pivots, where elements stand behind: as a contract over resources. -/
import Derived.Test.YthnadkagchbhbaaGreatRI
import Derived.Test.YthnadkagchbhbaaGreatF3
namespace Go.Proofs.YthnadkagchbhbaaGreat.E
open Go Go.RowKit Go.Lib
set_option linter.unusedVariables false
set_option linter.unusedSimpArgs false

theorem ins_list (cur cells vs : List Value) (k n c : Nat) (hk : k ≤ n) (hc : n + 1 ≤ c) (hl : cur.length = c * 2) (ht : cur.take (n * 2) = cells) (hv : vs.length = 2) :
  (E.splice (E.splice cur ((k + 1) * 2) (cells.drop (k * 2))) (k * 2) vs).take ((n + 1) * 2) = cells.take (k * 2) ++ vs ++ cells.drop (k * 2) := by
 have hcl : cells.length = n * 2 := by rw [← ht, List.length_take, hl]; omega
 have e2 : (cells.drop (k * 2)).length = (n - k) * 2 := by rw [List.length_drop, hcl]; omega
 have hcq : ∀ q, q < n * 2 → cells[q]? = cur[q]? := fun q hq => by rw [← ht, List.getElem?_take, if_pos hq]
 apply List.ext_getElem?
 intro q
 rw [List.getElem?_take, getElem?_splice _ _ _ (by rw [length_splice _ _ _ (by rw [e2, hl]; omega), hl]; omega), getElem?_splice _ _ _ (by rw [hl]; omega), List.append_assoc, List.getElem?_append, List.getElem?_append, List.getElem?_take, List.getElem?_drop, List.getElem?_drop, List.length_take, hcl, hv, e2, Nat.min_eq_left (by omega)]
 by_cases h1 : q < k * 2
 ·rw [if_pos (show q < (n + 1) * 2 by omega), if_pos h1, if_pos (show q < (k + 1) * 2 by omega), if_pos h1, if_pos h1, hcq q (by omega)]
 ·by_cases h2 : q < k * 2 + 2
  ·rw [if_pos (show q < (n + 1) * 2 by omega), if_neg h1, if_pos h2, if_neg h1, if_pos (show q - k * 2 < 2 by omega)]
  ·by_cases h3 : q < (n + 1) * 2
   ·rw [if_pos h3, if_neg h1, if_neg h2, if_neg (show ¬ q < (k + 1) * 2 by omega), if_pos (show q < (k + 1) * 2 + (n - k) * 2 by omega), if_neg h1, if_neg (show ¬ q - k * 2 < 2 by omega)]
    congr 1; omega
   ·rw [if_neg h3, if_neg h1, if_neg (show ¬ q - k * 2 < 2 by omega), List.getElem?_eq_none (by rw [hcl]; omega)]

theorem ins_list2 (row cells vs : List Value) (k n c : Nat) (hk : k ≤ n) (hc : n + 1 ≤ c) (hl : row.length = c * 2) (hcl : cells.length = n * 2) (ht : row.take (k * 2) = cells.take (k * 2)) (hv : vs.length = 2) :
  (E.splice (E.splice row (k * 2) vs) ((k + 1) * 2) (cells.drop (k * 2))).take ((n + 1) * 2) = cells.take (k * 2) ++ vs ++ cells.drop (k * 2) := by
 have e2 : (cells.drop (k * 2)).length = (n - k) * 2 := by rw [List.length_drop, hcl]; omega
 have hcq : ∀ q, q < k * 2 → row[q]? = cells[q]? := fun q hq => by
  have h1 : (row.take (k * 2))[q]? = row[q]? := by rw [List.getElem?_take, if_pos hq]
  have h2 : (cells.take (k * 2))[q]? = cells[q]? := by rw [List.getElem?_take, if_pos hq]
  rw [← h1, ← h2, ht]
 apply List.ext_getElem?
 intro q
 rw [List.getElem?_take, getElem?_splice _ _ _ (by rw [length_splice _ _ _ (by rw [hv, hl]; omega), hl]; omega), getElem?_splice _ _ _ (by rw [hl]; omega), List.append_assoc, List.getElem?_append, List.getElem?_append, List.getElem?_take, List.getElem?_drop, List.getElem?_drop, List.length_take, hcl, hv, e2, Nat.min_eq_left (by omega)]
 by_cases h1 : q < k * 2
 ·rw [if_pos (show q < (n + 1) * 2 by omega), if_pos (show q < (k + 1) * 2 by omega), if_pos h1, if_pos h1, if_pos h1, hcq q h1]
 ·by_cases h2 : q < k * 2 + 2
  ·rw [if_pos (show q < (n + 1) * 2 by omega), if_pos (show q < (k + 1) * 2 by omega), if_neg h1, if_pos h2, if_neg h1, if_pos (show q - k * 2 < 2 by omega)]
  ·by_cases h3 : q < (n + 1) * 2
   ·rw [if_pos h3, if_neg (show ¬ q < (k + 1) * 2 by omega), if_pos (show q < (k + 1) * 2 + (n - k) * 2 by omega), if_neg h1, if_neg (show ¬ q - k * 2 < 2 by omega)]
    congr 1; omega
   ·rw [if_neg h3, if_neg h1, if_neg (show ¬ q - k * 2 < 2 by omega), List.getElem?_eq_none (by rw [hcl]; omega)]

/-- A row of pairs of one's own, in plain words. -/
theorem row_parts {w : World} {W : Wit} {R : List Res} {i e : Nat} {xs : List (Int × Int)} (hs : Sep w W R) (hR : R[i]? = some (.row e 2 (pairs xs))) (hp : 0 < xs.length) :
  ∃ g cap cur, W.hs i = .slice (some ⟨g, 0, none⟩) xs.length cap ∧ W.fs i g ∧ w.heap[g]? = some (.cells cur e (0, 0)) ∧ xs.length ≤ cap ∧ cap ≤ maxLen ∧ cur.size = cap * 2 ∧ cur.toList.take (xs.length * 2) = flat xs ∧ w.ownsRow 0 e 2 (W.hs i) (pairs xs).length (flat xs) := by
 obtain ⟨f1, f2, cells, G, f3, f4, f5, f6⟩ := hs.res i _ hR
 have hc := f4.scs_inv (pairs_isSc xs)
 rw [flat_pairs] at hc
 have hc' := scs_eq hc
 subst hc'
 have f3' := f3
 rcases f3'.2 with ⟨_, h0⟩ | ⟨g, cap, cur, e1, _, e2, e3, e4, e5, e6⟩
 ·rw [pairs_len] at h0; omega
 ·rw [pairs_len] at e1 e3 e6
  exact ⟨g, cap, cur, e1, (f6 g).2 (.inl (by rw [e1]; rfl)), e2, e3, e4, e5, e6, f3⟩

theorem whole_val {w : World} {W : Wit} {R : List Res} {i e n : Nat} {xs : List (Int × Int)} {v : Value} (hs : Sep w W R) (hR : R[i]? = some (.row e 2 (pairs xs))) (hn : xs.length = n) (hp : 0 < n) (hv : AVR W R w (.c (.sl i 0 n n)) v) : v = W.hs i := by
 have hv' : AR W R w [.sl i 0 n n] [v] := hv
 cases hv' with
 | sl h1 h2 h3 _ =>
  obtain ⟨a, n', c', k1, k2, k3⟩ := (h3 _ _ _ hR).2 (by rw [pairs_len]; exact hn)
  obtain ⟨g, cap, cur, e1, _⟩ := row_parts hs hR (by omega)
  rw [e1] at k1
  obtain ⟨rfl, rfl, rfl⟩ : a = some ⟨g, 0, none⟩ ∧ n' = xs.length ∧ c' = cap := by cases k1; exact ⟨rfl, rfl, rfl⟩
  rcases k3 with k3 | ⟨_, h0, _⟩
  ·rw [k3, e1, hn]; simp
  ·omega

theorem c_insert_lt (xs : List (Int × Int)) (k : Nat) (p : Int × Int) (hk : k < xs.length) (hl : xs.length ≤ 1048576) :
  EFn Tryz.prog 96 [.c (.sl 0 0 xs.length xs.length), .c (.sc (.int .i64 (k : Int))), .c (.sl 1 0 1 1)] [.row 76 2 (pairs xs), .row 76 2 (pairs [p])]
   (fun r R' => r = .c (.sl 0 0 (xs.length + 1) (xs.length + 1)) ∧ R' = [.row 76 2 (pairs (xs.take k ++ [p] ++ xs.drop k)), .row 76 2 (pairs [p])]) := by
 intro w W vals hv hs
 obtain ⟨hvl, hva⟩ := hv
 obtain ⟨v0, v1, v2, rfl⟩ : ∃ v0 v1 v2, vals = [v0, v1, v2] := by
  match vals, hvl with
  | [a, b, c], _ => exact ⟨a, b, c, rfl⟩
 have h0 := hva 0 _ v0 rfl rfl
 have h1 := hva 1 _ v1 rfl rfl
 have h2 := hva 2 _ v2 rfl rfl
 have hp1 : 0 < [p].length := by simp
 obtain ⟨g, cap, cur, e1, e2, e3, e4, e5, e6, e7, e8⟩ := row_parts (i := 0) hs rfl (by omega)
 obtain ⟨g2, cap2, cur2, q1, q2, q3, q4, q5, q6, q7, q8⟩ := row_parts (i := 1) (xs := [p]) hs rfl hp1
 have hv0 := whole_val (i := 0) hs rfl rfl (by omega) h0
 have hv2 := whole_val (i := 1) (xs := [p]) hs rfl rfl hp1 h2
 have hv1 : v1 = .int .i64 (k : Int) := AR.sc_inv h1
 rw [e1] at hv0
 rw [q1] at hv2
 subst hv0 hv1 hv2
 have hne : g2 ≠ g := fun e => by subst e; have := hs.apart 0 1 g2 e2 q2; omega
 have hcl : (flat xs).length = xs.length * 2 := flat_len xs
 have hcs : ∀ j v, (flat xs)[j]? = some v → w.cell? ⟨g, 0 + j, none⟩ = some v := fun j v hj => by
  rw [← e7, List.getElem?_take] at hj
  split at hj
  ·simp only [World.cell?, e3, Nat.zero_add]; simpa using hj
  ·cases hj
 have hvs : ∀ j v, (flat [p])[j]? = some v → w.cell? ⟨g2, 0 + j, none⟩ = some v := fun j v hj => by
  rw [← q7, List.getElem?_take] at hj
  split at hj
  ·simp only [World.cell?, q3, Nat.zero_add]; simpa using hj
  ·cases hj
 have hmax : cap ≤ 9223372036854775807 := by unfold maxLen at e5; omega
 have hrows : ∀ r ∈ pairs (xs.take k ++ [p] ++ xs.drop k), r.length = 2 := fun r hr => (pairs_row _ r hr).1
 have hlen : (xs.take k ++ [p] ++ xs.drop k).length = xs.length + 1 := by simp; omega
 have hflat : flat (xs.take k ++ [p] ++ xs.drop k) = (flat xs).take (k * 2) ++ flat [p] ++ (flat xs).drop (k * 2) := by rw [flat_app, flat_app, flat_take, flat_drop]
 rcases Nat.lt_or_ge cap (xs.length + 1) with hroom | hroom
 ·-- a new row
  have hc := RI.insert_grow g xs.length cap k g2 0 1 cap2 (flat xs) (flat [p]) w hk (by omega) e4 hroom (by omega) hcl (flat_len _) hcs hvs (flat_one _) (flat_one _)
  refine hc.mono ?_
  rintro e w' ⟨ROW, r1, rfl, rfl, r2⟩
  have hG := grownCap_ge w (xs.length + 1) cap 76
  have hGm := grownCap_le_maxLen w (xs.length + 1) cap 76 (by unfold maxLen; omega)
  generalize grownCap w (xs.length + 1) cap 76 = Gc at r1 hG hGm
  have hA : (w.alloc (.cells ROW 76)).drew.heap[w.heap.size]? = some (.cells ROW 76 (0, 0)) := heap_alloc_self w _
  obtain ⟨a1, s1, s2, s3, s4, s5, s6, s7, s8⟩ := setCells_heap (flat [p]) (k * 2) _ ROW hA (by rw [flat_len, r1]; simp; omega)
  have hA2 : ((w.alloc (.cells ROW 76)).drew.setCells w.heap.size (k * 2) (flat [p])).drew.heap[w.heap.size]? = some (.cells a1 76 (0, 0)) := s1
  obtain ⟨a2, t1, t2, t3, t4, t5, t6, t7, t8⟩ := setCells_heap ((flat xs).drop (k * 2)) ((k + 1) * 2) _ a1 hA2 (by rw [List.length_drop, hcl, s3, r1]; omega)
  have hsz : w.heap.size < (((w.alloc (.cells ROW 76)).drew.setCells w.heap.size (k * 2) (flat [p])).drew.setCells w.heap.size ((k + 1) * 2) ((flat xs).drop (k * 2))).heap.size := by
   rw [t5]
   show w.heap.size < ((w.alloc (.cells ROW 76)).drew.setCells w.heap.size (k * 2) (flat [p])).heap.size
   rw [s5]
   show w.heap.size < (w.alloc (.cells ROW 76)).heap.size
   simp
  obtain ⟨W', m1, m2, m3⟩ := Sep.regrow (w' := (((w.alloc (.cells ROW 76)).drew.setCells w.heap.size (k * 2) (flat [p])).drew.setCells w.heap.size ((k + 1) * 2) ((flat xs).drop (k * 2)))) (i := 0) (e := 76) (k := 2) (rows := pairs xs) (rows' := pairs (xs.take k ++ [p] ++ xs.drop k)) (v' := .slice (some ⟨w.heap.size, 0, none⟩) (xs.length + 1) Gc) (cells' := flat (xs.take k ++ [p] ++ xs.drop k)) hs rfl (t6.trans s6) (t7.trans s7) (t8.trans s8) (by omega)
   (fun c hc _ => by
    rw [t4 c (by omega)]
    show ((w.alloc (.cells ROW 76)).drew.setCells w.heap.size (k * 2) (flat [p])).heap[c]? = _
    rw [s4 c (by omega)]
    exact heap_alloc_lt w _ c hc)
   ⟨by rw [flat_len, pairs_len], .inr ⟨w.heap.size, Gc, a2, by rw [pairs_len, hlen], Nat.zero_le _, t1, by rw [pairs_len, hlen]; omega, hGm, by rw [t3, s3, r1], by
    rw [pairs_len, hlen, hflat, t2, s2]
    exact ins_list2 ROW.toList (flat xs) (flat [p]) k xs.length Gc (by omega) (by omega) (by simpa using r1) hcl r2 (flat_len _)⟩⟩
   hrows (pairs_ow _ _) (fun b hb => by cases hb; exact .inr (Nat.le_refl _)) (by rw [pairs_len, pairs_len, hlen]; omega)
  exact ⟨_, _, W', ⟨rfl, rfl⟩, ⟨_, rfl, sl_whole (e := 76) (k := 2) (by rfl) (by rw [pairs_len, hlen]) m3 rfl m2⟩, m2, m1⟩
 ·-- in place
  have hsh : w.shape? g2 = some (76, cur2.size) := by simp [World.shape?, q3]
  have hsh1 : w.shape? g = some (76, cur.size) := by simp [World.shape?, e3]
  have hc := RI.insert_shift g xs.length cap k g2 0 1 cap2 (flat xs) (flat [p]) w hk (by omega) hroom hmax hne hcl (flat_len _) hcs
   (fun j hj => by simp [World.cell?, e3]; omega) (fun j hj => by simp [World.frozen?, e3]) hvs (flat_one _) (flat_one _) 76 76 _ _ hsh hsh1 (by omega) (by simp [World.frozen?, q3]) (by simp [World.frozen?, q3])
  refine hc.mono ?_
  rintro e w' ⟨rfl, rfl⟩
  have hA : w.drew.heap[g]? = some (.cells cur 76 (0, 0)) := e3
  obtain ⟨a1, s1, s2, s3, s4, s5, s6, s7, s8⟩ := setCells_heap ((flat xs).drop (k * 2)) ((k + 1) * 2) _ cur hA (by rw [List.length_drop, hcl, e6]; omega)
  obtain ⟨a2, t1, t2, t3, t4, t5, t6, t7, t8⟩ := setCells_heap (flat [p]) (k * 2) _ a1 s1 (by rw [flat_len, s3, e6]; simp; omega)
  have hsz : ((w.drew.setCells g ((k + 1) * 2) ((flat xs).drop (k * 2))).setCells g (k * 2) (flat [p])).heap.size = w.heap.size := t5.trans s5
  obtain ⟨W', m1, m2, m3⟩ := Sep.regrow (w' := ((w.drew.setCells g ((k + 1) * 2) ((flat xs).drop (k * 2))).setCells g (k * 2) (flat [p]))) (i := 0) (e := 76) (k := 2) (rows := pairs xs) (rows' := pairs (xs.take k ++ [p] ++ xs.drop k)) (v' := .slice (some ⟨g, 0, none⟩) (xs.length + 1) cap) (cells' := flat (xs.take k ++ [p] ++ xs.drop k)) hs rfl (t6.trans s6) (t7.trans s7) (t8.trans s8) (by omega)
   (fun c hc hc2 => by
    have hcg : c ≠ g := fun e => hc2 (by rw [e1, e]; rfl)
    rw [t4 c hcg, s4 c hcg]; rfl)
   ⟨by rw [flat_len, pairs_len], .inr ⟨g, cap, a2, by rw [pairs_len, hlen], Nat.zero_le _, t1, by rw [pairs_len, hlen]; omega, e5, by rw [t3, s3, e6], by
    rw [pairs_len, hlen, hflat, t2, s2]
    exact ins_list cur.toList (flat xs) (flat [p]) k xs.length cap (by omega) hroom (by simpa using e6) e7 (flat_len _)⟩⟩
   hrows (pairs_ow _ _) (fun b hb => by rw [e1]; exact .inl hb) (by rw [pairs_len, pairs_len, hlen]; omega)
  exact ⟨_, _, W', ⟨rfl, rfl⟩, ⟨_, rfl, sl_whole (e := 76) (k := 2) (by rfl) (by rw [pairs_len, hlen]) m3 rfl m2⟩, m2, m1⟩
end Go.Proofs.YthnadkagchbhbaaGreat.E
