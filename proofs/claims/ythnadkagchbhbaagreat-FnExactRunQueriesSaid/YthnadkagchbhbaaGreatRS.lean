/- slices.Sort at integers, a row of one's own: as a contract over resources. -/
import Derived.Test.YthnadkagchbhbaaGreatRS0
import Derived.Test.YthnadkagchbhbaaGreatF3
import Derived.Sort.OwnSortedInts
namespace Go.Proofs.YthnadkagchbhbaaGreat.E
open Go Go.RowKit Go.Lib Go.Sort
set_option linter.unusedVariables false
set_option linter.unusedSimpArgs false

/-- A row of one's own is turned into another of the same length, where it lies. -/
theorem Sep.rerow {w w' : World} {W : Wit} {R : List Res} {i e k : Nat} {rows rows' : List (List T)} {cells' : List Value} (hs : Sep w W R) (hR : R[i]? = some (.row e k rows)) (ho : w'.os = w.os) (htp : w'.tape = w.tape) (hout : w'.output = w.output) (hsz : w.heap.size ≤ w'.heap.size)
  (hb : ∀ c, c < w.heap.size → (W.hs i).ownBlock ≠ some c → w'.heap[c]? = w.heap[c]?) (hown : w'.ownsRow 0 e k (W.hs i) rows'.length cells') (hk : ∀ r ∈ rows', r.length = k) (how : Ow w' rows'.flatten cells' (fun _ => False))
  (hlen : rows.length = rows'.length) : ∃ W', Trans w W R w' W' (R.set i (.row e k rows')) ∧ Sep w' W' (R.set i (.row e k rows')) := by
 have hi : i < R.length := by
  rcases Nat.lt_or_ge i R.length with h' | h'
  ·exact h'
  ·rw [List.getElem?_eq_none h'] at hR; cases hR
 obtain ⟨f1, f2, cells, G, f3, f4, f5, f6⟩ := hs.res i _ hR
 let W' : Wit := ⟨W.hs, fun j => if j = i then (fun b => (W.hs i).ownBlock = some b) else W.fs j⟩
 have wf : W'.fs i = fun b => (W.hs i).ownBlock = some b := by simp [W']
 have wf' : ∀ j, j ≠ i → W'.fs j = W.fs j := fun j hj => by simp [W', hj]
 have hblk : ∀ c, c < w.heap.size → ¬ W.fs i c → w'.heap[c]? = w.heap[c]? := fun c hc1 hc2 => hb c hc1 fun e => hc2 ((f6 c).2 (.inl e))
 have hvlt : ∀ b, (W.hs i).ownBlock = some b → W.fs i b := fun b hb' => (f6 b).2 (.inl hb')
 have tr : Trans w W R w' W' (R.set i (.row e k rows')) := by
  refine ⟨ho, htp, hout, hsz, fun c hc' => hblk c hc'.1 (hc'.2 i), fun j c hj => ?_, fun j => ?_⟩
  ·by_cases e : j = i
   ·subst e
    rw [wf] at hj
    exact .inl ⟨_, hvlt c hj⟩
   ·rw [wf' j e] at hj; exact .inl ⟨j, hj⟩
  ·by_cases e' : i = j
   ·subst e'
    rw [List.getElem?_set_self hi, hR]
    exact ⟨rfl, rfl, by omega, fun _ => rfl⟩
   ·rw [List.getElem?_set_ne e']
    exact Goes.refl _ _
 refine ⟨W', tr, hs.step tr i (fun j h1 _ => by simpa using h1) (fun j h1 _ => List.getElem?_set_ne (Ne.symm h1)) (fun _ _ => rfl) (fun j h1 b => by rw [wf' j h1]) (fun j h1 c hc' => hblk c (hs.lt j c hc') fun e => h1 (hs.apart j i c hc' e))
  (fun q hq => ?_) (fun b hb' => ?_) (fun b hb' => ?_) (fun h' => absurd hi (by simp at h'; omega)) (fun h' => by rw [List.getElem?_set_self hi] at h'; cases h')⟩
 ·rw [List.getElem?_set_self hi] at hq
  obtain rfl := Option.some.inj hq
  rw [wf]
  exact ⟨f1, hk, cells', fun _ => False, hown, how, fun b _ h => h, fun b => by simp [W']⟩
 ·rw [wf] at hb'; exact .inl (hvlt b hb')
 ·rw [wf] at hb'; exact (hown.lt b hb').2

theorem ints_flat : ∀ xs : List Int, (ints xs).flatten = (xs.map (Value.int .i64)).map T.sc
 | [] => rfl
 | x :: xs => by have := ints_flat xs; simp only [ints, List.map_cons, List.flatten_cons] at this ⊢; rw [this]; rfl
theorem ints_isSc (xs : List Int) : (ints xs).flatten.all isSc = true := by rw [ints_flat]; simp [isSc, Function.comp_def]
theorem ints_ow (w : World) (xs : List Int) : Ow w (ints xs).flatten (xs.map (Value.int .i64)) (fun _ => False) := by
 rw [ints_flat]; exact Ow.scv (by intro v hv; obtain ⟨x, _, rfl⟩ := List.mem_map.1 hv; rfl)

/-- A list in ascending order. -/
def sortI (xs : List Int) : List Int := xs.mergeSort fun x y => decide (x ≤ y)
theorem sortI_perm (xs : List Int) : (sortI xs).Perm xs := List.mergeSort_perm xs _
theorem sortI_len (xs : List Int) : (sortI xs).length = xs.length := (sortI_perm xs).length_eq

theorem c_sort (xs : List Int) (hl : xs.length ≤ 1048576) :
  EFn Tryz.prog 88 [.c (.sl 0 0 xs.length xs.length)] [.row 3 1 (ints xs)] (fun r R' => r = .tup [] ∧ R' = [.row 3 1 (ints (sortI xs))]) := by
 intro w W vals hv hs
 obtain ⟨hvl, hva⟩ := hv
 obtain ⟨v0, rfl⟩ : ∃ v0, vals = [v0] := by
  match vals, hvl with
  | [a], _ => exact ⟨a, rfl⟩
 have h0 := hva 0 _ v0 rfl rfl
 obtain ⟨f1, f2, cells, G, f3, f4, f5, f6⟩ := hs.res 0 _ rfl
 have hc := f4.scs_inv (ints_isSc xs)
 rw [ints_flat] at hc
 have hc' := scs_eq hc
 subst hc'
 have h0' : AR W [.row 3 1 (ints xs)] w [.sl 0 0 xs.length xs.length] [v0] := h0
 have hsl : slAt (W.hs 0) v0 1 0 xs.length := by
  cases h0' with
  | sl _ _ h3 _ => exact (h3 _ _ _ rfl).2 (ints_len xs)
 obtain ⟨a, n, c, k1, k2, k3⟩ := hsl
 have k3 : v0 = .slice (a.map fun b => ⟨b.block, 0 * 1, none⟩) xs.length (c - 0) := by
  rcases k3 with k3 | ⟨_, h00, _⟩
  ·exact k3
  ·omega
 rcases Nat.eq_zero_or_pos xs.length with hz | hp
 ·obtain rfl : xs = [] := List.length_eq_zero_iff.1 hz
  rw [k3]
  refine (Tryz.slices_Sort_int_none _ _ w).mono ?_
  rintro e w' ⟨rfl, rfl⟩
  exact ⟨_, _, W, ⟨rfl, rfl⟩, ⟨_, rfl, ⟨[], rfl, rfl, fun i x u hx _ => by simp at hx⟩⟩, by simpa [sortI] using hs, by simpa [sortI] using Trans.refl _ W _⟩
 ·have f3' := f3
  rcases f3'.2 with ⟨_, e0⟩ | ⟨g, cap, cur, e1, _, e2, e3, e4, e5, e6⟩
  ·rw [ints_len] at e0; omega
  rw [ints_len] at e1 e3 e6
  have hv0 : v0 = .slice (some ⟨g, 0, none⟩) xs.length cap := by
   rw [k3]
   rw [e1] at k1
   cases k1
   simp
  subst hv0
  rw [Nat.mul_one] at e5 e6
  have hg : g < w.heap.size := (Array.getElem?_eq_some_iff.1 e2).1
  refine (Tryz.slices_Sort_int g 0 cap xs w (holds_of_blockI e2 e6) hg (by omega)).mono ?_
  rintro e w' ⟨rfl, nn, os, rfl⟩
  have hgb := grownBy_sortedI (w := w) (g := g) (n := nn) (os := os) (sortI xs).toArray
  have hown := ownsRow_sortedI (base := 0) (n := nn) (os := os) (ss := xs) (ts := sortI xs) (sortI_len xs) (Nat.zero_le _) e2 e3 e4 (by omega)
  have hln : (ints (sortI xs)).length = xs.length := by rw [ints_len, sortI_len]
  obtain ⟨W', m1, m2⟩ := Sep.rerow (i := 0) (e := 3) (k := 1) (rows := ints xs) (rows' := ints (sortI xs)) hs rfl hgb.os hgb.tape hgb.output hgb.size
   (fun c hc1 hc2 => hgb.block c hc1 (fun e => hc2 (by rw [e1]; exact e.symm))) (by rw [hln, e1]; exact hown) (fun r hr => (ints_row _ r hr).1) (ints_ow _ _) (by rw [hln, ints_len])
  exact ⟨_, _, W', ⟨rfl, rfl⟩, ⟨_, rfl, ⟨[], rfl, rfl, fun i x u hx _ => by simp at hx⟩⟩, m2, m1⟩
end Go.Proofs.YthnadkagchbhbaaGreat.E
