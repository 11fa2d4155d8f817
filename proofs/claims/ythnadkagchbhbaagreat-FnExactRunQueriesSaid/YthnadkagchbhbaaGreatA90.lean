/- Walks through functions, by program out of the session's annotations. -/
import Derived.Test.YthnadkagchbhbaaGreatA89
import Derived.Test.YthnadkagchbhbaaGreatA53
namespace Go.Proofs.YthnadkagchbhbaaGreat.E
open Go Go.RowKit Go.Proofs
set_option linter.unusedVariables false
set_option linter.unusedSimpArgs false

structure Sett where
 pol : Int
 thr : Int
 seed : Int
 deriving DecidableEq
def setC (s : Sett) : List AC := [.sc (.int .i64 s.pol), .sc (.int .i64 s.thr), .sc (.int .i64 s.seed)]
def isSet (s : Sett) : Bool := isIn s.pol 0 2 && isIn s.thr 1 64 && isIn s.seed 0 10006
theorem set_parts {s : Sett} (h : isSet s = true) : (0 ≤ s.pol ∧ s.pol ≤ 2) ∧ (1 ≤ s.thr ∧ s.thr ≤ 64) ∧ (0 ≤ s.seed ∧ s.seed ≤ 10006) := by
 simp [isSet, isIn] at h
 omega
def nxSeed (x : Int) : Int := (x * 1103 + 2345) % 10007
theorem nxSeed_in (x : Int) : 0 ≤ nxSeed x ∧ nxSeed x ≤ 10006 := by unfold nxSeed; omega
def setN (s : Sett) : Sett := if s.pol = 2 then ⟨s.pol, s.thr, nxSeed s.seed⟩ else s
theorem setN_ok {s : Sett} (h : isSet s = true) : isSet (setN s) = true := by
 obtain ⟨h1, h2, h3⟩ := set_parts h
 have h4 := nxSeed_in s.seed
 unfold setN
 split
 ·simp [isSet, isIn]; omega
 ·exact h
/-- The value at which a piece is divided. -/
def chP (c : Crk) (s : Sett) (a b : Int) : Int := if s.pol = 2 then c.vals.getD (a + nxSeed s.seed % (b - a)).toNat 0 else medI (cutV c.vals a b)
def chW (c : Crk) (s : Sett) (v : Int) : Int := chP c s (pcFrom c.piv v) (pcTo c.piv c.vals.length v)
def stopW (c : Crk) (s : Sett) (v : Int) : Bool := decide (s.pol = 0) || isPv c.piv v || decide (pcTo c.piv c.vals.length v - pcFrom c.piv v ≤ s.thr)
abbrev Qn := Int × Int × Int × Int × Int
def chgs (q : Int) (c : Crk) (v : Int) : List Qn := if isPv c.piv v = true then [] else [(q, v, pcFrom c.piv v, pcTo c.piv c.vals.length v, ((crackC c v).2.length : Int))]
def stepW (c : Crk) (s : Sett) (v : Int) : Crk := (crackC (crackC c (chW c s v)).1 (chW c s v + 1)).1
/-- Cracked down to the threshold: column, settings, ledger. -/
def goW (q v : Int) : Nat → Crk → Sett → List Qn → Crk × Sett × List Qn
 | 0, c, s, l => (c, s, l)
 | f + 1, c, s, l => if stopW c s v = true then (c, s, l) else goW q v f (stepW c s v) (setN s) (l ++ chgs q c (chW c s v) ++ chgs q (crackC c (chW c s v)).1 (chW c s v + 1))
def withW (q : Int) (c : Crk) (s : Sett) (v : Int) (l : List Qn) : Crk × Sett × List Qn := ((crackC (goW q v 4000 c s l).1 v).1, (goW q v 4000 c s l).2.1, (goW q v 4000 c s l).2.2 ++ chgs q (goW q v 4000 c s l).1 v)
def totW : List Qn → Int
 | [] => 0
 | x :: l => x.2.2.2.2 + totW l
theorem totW_app : ∀ (l m : List Qn), totW (l ++ m) = totW l + totW m
 | [], m => by simp [totW]
 | x :: l, m => by rw [List.cons_append, totW, totW_app l m, totW]; omega
theorem totW_step {l : List Qn} {k : Nat} {x : Qn} (h : l[k]? = some x) : totW (l.take (k + 1)) = totW (l.take k) + x.2.2.2.2 := by
 rw [List.take_add_one, h, totW_app]
 simp [totW]
def okL (l : List Qn) (n : Nat) : Prop := l.length ≤ n ∧ ∀ x ∈ l, 0 ≤ x.2.2.2.2 ∧ x.2.2.2.2 ≤ 64
theorem okL_nil (n : Nat) : okL [] n := ⟨by simp, by simp⟩
theorem okL_app {l m : List Qn} {n k : Nat} (h : okL l n) (h' : okL m k) : okL (l ++ m) (n + k) := by
 refine ⟨by rw [List.length_append]; have := h.1; have := h'.1; omega, fun x hx => ?_⟩
 rcases List.mem_append.1 hx with hx | hx
 ·exact h.2 x hx
 ·exact h'.2 x hx
theorem okL_mono {l : List Qn} {n k : Nat} (h : okL l n) (hk : n ≤ k) : okL l k := ⟨by have := h.1; omega, h.2⟩
theorem okL_tot {n : Nat} : ∀ {l : List Qn}, okL l n → 0 ≤ totW l ∧ totW l ≤ 64 * l.length
 | [], _ => by simp [totW]
 | x :: l, h => by
  have h1 := h.2 x (List.mem_cons_self ..)
  have h2 := okL_tot (n := l.length) (l := l) ⟨Nat.le_refl _, fun y hy => h.2 y (List.mem_cons_of_mem _ hy)⟩
  rw [totW, List.length_cons]
  omega
theorem okL_take {l : List Qn} {n : Nat} (h : okL l n) (k : Nat) : okL (l.take k) n := ⟨by have := h.1; rw [List.length_take]; omega, fun x hx => h.2 x (List.mem_of_mem_take hx)⟩
theorem chgs_ok {q : Int} {c : Crk} {v : Int} (hc : isCrk c = true) (hv : bnd v = true) : okL (chgs q c v) 1 := by
 unfold chgs
 split
 ·exact okL_nil 1
 ·refine ⟨by simp, fun x hx => ?_⟩
  obtain rfl : x = _ := by simpa using hx
  have := (crackC_ok hc hv).2
  dsimp only
  omega
/-- Where the pivots stand beside the piece of a value that is none. -/
theorem pv_side {c : Crk} {v : Int} (h : isCrk c = true) (hp : isPv c.piv v = false) : ∀ p ∈ c.piv, (p.1 < v ∧ p.2 ≤ pcFrom c.piv v) ∨ (v < p.1 ∧ pcTo c.piv c.vals.length v ≤ p.2) := by
 have ho := (crk_iff c).1 h
 have hfa := pcFrom_a hp
 intro p hpm
 obtain ⟨j, hj, rfl⟩ := List.mem_iff_getElem.1 hpm
 have hjs := List.getElem?_eq_getElem hj
 rcases Nat.lt_or_ge j (geIx c.piv v) with h1 | h1
 ·refine .inl ⟨geIx_below h1 hjs, ?_⟩
  rw [hfa]
  obtain ⟨q, hq⟩ := at_lt (l := c.piv) (k := geIx c.piv v - 1) (by have := geIx_le c.piv v; omega)
  have e : aOf c.piv (geIx c.piv v) = q.2 := by
   have := aOf_step hq
   rwa [show geIx c.piv v - 1 + 1 = geIx c.piv v by omega] at this
  rw [e]
  rcases Nat.lt_or_ge j (geIx c.piv v - 1) with h2 | h2
  ·exact (ho.so _ _ _ _ h2 hjs hq).2
  ·have e2 : j = geIx c.piv v - 1 := by omega
   rw [← e2, hjs] at hq
   rw [Option.some.inj hq]
   exact Int.le_refl _
 ·obtain ⟨q, hq⟩ := at_lt (l := c.piv) (k := geIx c.piv v) (by omega)
  have hq1 := geIx_here hq
  have hq2 := isPv_no hp q (List.mem_of_getElem? hq)
  have e : pcTo c.piv c.vals.length v = q.2 := by rw [pcTo, zOf_at hq]
  rw [e]
  rcases Nat.lt_or_ge (geIx c.piv v) j with h2 | h2
  ·have := ho.so _ _ _ _ h2 hq hjs
   exact .inr ⟨by omega, this.2⟩
  ·have e2 : geIx c.piv v = j := by omega
   rw [e2, hjs] at hq
   rw [Option.some.inj hq]
   exact .inr ⟨by omega, Int.le_refl _⟩
/-- Of what is between, one value is taken. -/
theorem chP_at {c : Crk} {s : Sett} {a b : Int} (ha : 0 ≤ a) (hab : a < b) (hb : b ≤ c.vals.length) : ∃ i : Nat, a ≤ i ∧ (i : Int) < b ∧ i < c.vals.length ∧ c.vals.getD i 0 = chP c s a b := by
 unfold chP
 split
 ·have h1 := Int.emod_nonneg (nxSeed s.seed) (show b - a ≠ 0 by omega)
  have h2 := Int.emod_lt_of_pos (nxSeed s.seed) (show 0 < b - a by omega)
  exact ⟨(a + nxSeed s.seed % (b - a)).toNat, by omega, by omega, by omega, rfl⟩
 ·have hl := cutV_len (xs := c.vals) ha (Int.le_of_lt hab) hb
  have hm := medI_mem (l := cutV c.vals a b) (by omega)
  obtain ⟨i, hi, e⟩ := List.mem_iff_getElem.1 hm
  obtain ⟨i1, i2, i3⟩ := cutV_get (xs := c.vals) ha hb hi
  exact ⟨a.toNat + i, by omega, by omega, i1, i3.symm.trans e⟩
theorem stepW_ok {c : Crk} {s : Sett} {v : Int} (hc : isCrk c = true) (hs : isSet s = true) (hst : stopW c s v = false) :
  (0 ≤ pcFrom c.piv v ∧ pcFrom c.piv v < pcTo c.piv c.vals.length v ∧ pcTo c.piv c.vals.length v ≤ c.vals.length) ∧ bnd (chW c s v) = true ∧ bnd (chW c s v + 1) = true ∧ isCrk (crackC c (chW c s v)).1 = true ∧ isCrk (stepW c s v) = true ∧ c.piv.length < (stepW c s v).piv.length := by
 have ho := (crk_iff c).1 hc
 have hpb := pc_bounds hc v
 obtain ⟨_, ⟨t1, t2⟩, _⟩ := set_parts hs
 simp only [stopW, Bool.or_eq_false_iff, decide_eq_false_iff_not] at hst
 obtain ⟨⟨s1, s2⟩, s3⟩ := hst
 have hab : pcFrom c.piv v < pcTo c.piv c.vals.length v := by omega
 obtain ⟨i, i1, i2, i3, i4⟩ := chP_at (s := s) hpb.1 hab hpb.2.2
 refine ⟨⟨hpb.1, hab, hpb.2.2⟩, ?_⟩
 have i4' : c.vals.getD i 0 = chW c s v := i4
 have hr := ho.vr _ i3
 unfold stepW
 generalize chW c s v = m at *
 rw [i4'] at hr
 have b1 : bnd m = true := by simp [bnd, isIn]; omega
 have b2 : bnd (m + 1) = true := by simp [bnd, isIn]; omega
 have k1 := (crackC_ok hc b1).1
 have k2 := (crackC_ok k1 b2).1
 refine ⟨b1, b2, k1, k2, ?_⟩
 have p1 := crackC_piv (c := c) (v := m)
 have p2 := crackC_piv (c := (crackC c m).1) (v := m + 1)
 cases g1 : isPv c.piv m
 ·rw [g1] at p1
  simp only [Bool.false_eq_true, if_false] at p1
  split at p2 <;> omega
 ·have ec : (crackC c m).1 = c := by rw [crackC, if_pos g1]
  rw [ec] at p2 ⊢
  cases g2 : isPv c.piv (m + 1)
  ·rw [g2] at p2
   simp only [Bool.false_eq_true, if_false] at p2
   omega
  ·exfalso
   obtain ⟨p, hp, ep⟩ := isPv_iff.1 g1
   obtain ⟨q, hq, eq⟩ := isPv_iff.1 g2
   obtain ⟨_, _, _, _, hp5⟩ := ho.pv p hp
   obtain ⟨_, _, _, _, hq5⟩ := ho.pv q hq
   have x1 := hp5 _ i3
   have x2 := hq5 _ i3
   rw [i4', ep] at x1
   rw [i4', eq] at x2
   have y1 := pv_side hc s2 p hp
   have y2 := pv_side hc s2 q hq
   omega
theorem withW_ok {q v : Int} (hv : bnd v = true) : ∀ (f : Nat) (c : Crk) (s : Sett) (l : List Qn), isCrk c = true → isSet s = true → isCrk (goW q v f c s l).1 = true ∧ isSet (goW q v f c s l).2.1 = true
 | 0, c, s, l, hc, hs => ⟨hc, hs⟩
 | f + 1, c, s, l, hc, hs => by
  rw [goW]
  split
  ·exact ⟨hc, hs⟩
  ·rename_i h
   obtain ⟨_, _, _, _, k, _⟩ := stepW_ok hc hs (by simpa using h)
   exact withW_ok hv f _ _ _ k (setN_ok hs)
theorem with_ok {q v : Int} {c : Crk} {s : Sett} {l : List Qn} (hv : bnd v = true) (hc : isCrk c = true) (hs : isSet s = true) : isCrk (withW q c s v l).1 = true ∧ isSet (withW q c s v l).2.1 = true := by
 obtain ⟨h1, h2⟩ := withW_ok (q := q) hv 4000 c s l hc hs
 exact ⟨(crackC_ok h1 hv).1, h2⟩
theorem goL_ok {q v : Int} : ∀ (f : Nat) (c : Crk) (s : Sett) (l : List Qn) (n : Nat), isCrk c = true → isSet s = true → okL l n → okL (goW q v f c s l).2.2 (n + 2 * f)
 | 0, c, s, l, n, _, _, hl => okL_mono hl (by omega)
 | f + 1, c, s, l, n, hc, hs, hl => by
  rw [goW]
  split
  ·exact okL_mono hl (by omega)
  ·rename_i h
   obtain ⟨_, b1, b2, k1, k2, _⟩ := stepW_ok hc hs (by simpa using h)
   exact okL_mono (goL_ok f _ _ _ (n + 1 + 1) k2 (setN_ok hs) (okL_app (okL_app hl (chgs_ok hc b1)) (chgs_ok k1 b2))) (by omega)
theorem withL_ok {q v : Int} {c : Crk} {s : Sett} {l : List Qn} {n : Nat} (hv : bnd v = true) (hc : isCrk c = true) (hs : isSet s = true) (hl : okL l n) : okL (withW q c s v l).2.2 (n + 8001) := by
 obtain ⟨h1, h2⟩ := withW_ok (q := q) hv 4000 c s l hc hs
 exact okL_mono (okL_app (goL_ok 4000 c s l n hc hs hl) (chgs_ok h1 hv)) (by omega)
def cwK (c : Crk) (s : Sett) (v : Int) : Bool := isCrk c && isSet s && bnd v
def cwC (c : Crk) (s : Sett) (v : Int) : Crk := if cwK c s v = true then (withW 0 c s v []).1 else c
def cwS (c : Crk) (s : Sett) (v : Int) : Sett := if cwK c s v = true then (withW 0 c s v []).2.1 else s
def cwN (c : Crk) (s : Sett) (v : Int) : Int := if cwK c s v = true then totW (withW 0 c s v []).2.2 else 0
theorem cwK_parts {c : Crk} {s : Sett} {v : Int} (h : cwK c s v = true) : isCrk c = true ∧ isSet s = true ∧ bnd v = true := by
 simp only [cwK, Bool.and_eq_true] at h
 exact ⟨h.1.1, h.1.2, h.2⟩
end Go.Proofs.YthnadkagchbhbaaGreat.E
