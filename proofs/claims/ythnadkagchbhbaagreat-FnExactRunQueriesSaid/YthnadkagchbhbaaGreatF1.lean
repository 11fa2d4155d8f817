/- Words of the session's own, put together: part 1. -/
import Derived.Below
import Derived.OwnWalk
import Derived.Laws.MakeOwn
import Derived.Laws.OwnMore
import Derived.Deep.OwnRows
import Derived.WalkKit
import Derived.KernelRfl
import Derived.Calls
import Derived.Orders
import Derived.OrdersHeld
namespace Go.Proofs.YthnadkagchbhbaaGreat.E
open Go Go.RowKit
set_option linter.unusedVariables false
set_option linter.unusedSimpArgs false

/-! ### 1. Trees -/
/-- What a cell reads as: a scalar, or a slice of rows of cells. -/
inductive T where
 | sc (v : Value)
 | sl (rows : List (List T))

/-- Cells that read as trees, through blocks of O alone. -/
inductive Rd (w : World) (O : Nat → Prop) : List T → List Value → Prop
 | nil : Rd w O [] []
 | sc {v : Value} {ts : List T} {vs : List Value} : v.oneCell' = true → Rd w O ts vs → Rd w O (.sc v :: ts) (v :: vs)
 | sl {rows : List (List T)} {a : Option Addr} {c : Nat} {inner : List Value} {ts : List T} {vs : List Value} (k : Nat) : rows.length ≤ c ∧ c ≤ maxLen → 0 < k → (∀ r ∈ rows, r.length = k) →
   (0 < rows.length → ∃ b o, a = some ⟨b, o, none⟩ ∧ O b ∧ ∀ j u, inner[j]? = some u → w.cell? ⟨b, o + j, none⟩ = some u) →
   Rd w O rows.flatten inner → Rd w O ts vs → Rd w O (.sl rows :: ts) (.slice a rows.length c :: vs)

theorem Rd.mono {w w' : World} {O O' : Nat → Prop} (hO : ∀ b, O b → O' b ∧ w'.heap[b]? = w.heap[b]?) {ts : List T} {vs : List Value} (h : Rd w O ts vs) : Rd w' O' ts vs := by
 induction h with
 | nil => exact .nil
 | sc h1 _ ih => exact .sc h1 ih
 | sl k h1 h2 h3 h4 _ _ ih1 ih2 =>
  refine .sl k h1 h2 h3 (fun h0 => ?_) ih1 ih2
  obtain ⟨b, o, e, hb, hc⟩ := h4 h0
  exact ⟨b, o, e, (hO b hb).1, fun j u hj => by rw [World.cell?_of_block (w := w) (a := ⟨b, o + j, none⟩) (hO b hb).2]; exact hc j u hj⟩

theorem Rd.length {w : World} {O : Nat → Prop} {ts : List T} {vs : List Value} (h : Rd w O ts vs) : ts.length = vs.length := by
 induction h with
 | nil => rfl
 | sc _ _ ih => simp [ih]
 | sl _ _ _ _ _ _ _ _ ih2 => simp [ih2]

theorem Rd.one {w : World} {O : Nat → Prop} {ts : List T} {vs : List Value} (h : Rd w O ts vs) : ∀ u ∈ vs, u.oneCell' = true := by
 induction h with
 | nil => simp
 | sc h1 _ ih => intro u hu; rcases List.mem_cons.1 hu with rfl | hu; exact h1; exact ih u hu
 | sl _ _ _ _ _ _ _ _ ih2 => intro u hu; rcases List.mem_cons.1 hu with rfl | hu; rfl; exact ih2 u hu

theorem Rd.append {w : World} {O : Nat → Prop} {ts : List T} {vs : List Value} {us : List T} {xs : List Value} (h : Rd w O ts vs) (h' : Rd w O us xs) : Rd w O (ts ++ us) (vs ++ xs) := by
 induction h with
 | nil => exact h'
 | sc h1 _ ih => exact .sc h1 ih
 | sl k h1 h2 h3 h4 h5 _ _ ih2 => exact .sl k h1 h2 h3 h4 h5 ih2

theorem Rd.drop {w : World} {O : Nat → Prop} {ts : List T} {vs : List Value} (h : Rd w O ts vs) : ∀ n, Rd w O (ts.drop n) (vs.drop n) := by
 induction h with
 | nil => intro n; simpa using .nil
 | sc h1 h2 ih => intro n; cases n; exact .sc h1 h2; exact ih _
 | sl k h1 h2 h3 h4 h5 h6 _ ih2 => intro n; cases n; exact .sl k h1 h2 h3 h4 h5 h6; exact ih2 _

theorem Rd.take {w : World} {O : Nat → Prop} {ts : List T} {vs : List Value} (h : Rd w O ts vs) : ∀ n, Rd w O (ts.take n) (vs.take n) := by
 induction h with
 | nil => intro n; simpa using .nil
 | sc h1 h2 ih => intro n; cases n; exact .nil; exact .sc h1 (ih _)
 | sl k h1 h2 h3 h4 h5 h6 _ ih2 => intro n; cases n; exact .nil; exact .sl k h1 h2 h3 h4 h5 (ih2 _)

/-- Cells of the call's own that read as trees; F: the blocks below them. -/
inductive Ow (w : World) : List T → List Value → (Nat → Prop) → Prop
 | nil : Ow w [] [] (fun _ => False)
 | sc {v : Value} {ts : List T} {vs : List Value} {F : Nat → Prop} : v.oneCell' = true → Ow w ts vs F → Ow w (.sc v :: ts) (v :: vs) F
 | sl {rows : List (List T)} {v : Value} {cells : List Value} {ts : List T} {vs : List Value} {F G : Nat → Prop} (e k : Nat) : 0 < k → (∀ r ∈ rows, r.length = k) →
   w.ownsRow 0 e k v rows.length cells → Ow w rows.flatten cells F → Ow w ts vs G → (∀ b, v.ownBlock = some b → ¬ F b ∧ ¬ G b) → (∀ b, F b → ¬ G b) →
   Ow w (.sl rows :: ts) (v :: vs) (fun b => v.ownBlock = some b ∨ F b ∨ G b)

theorem ownsRow_congr {w w' : World} {base e k : Nat} {v : Value} {n : Nat} {xs : List Value} (h : w.ownsRow base e k v n xs) (hb : ∀ b, v.ownBlock = some b → w'.heap[b]? = w.heap[b]?) : w'.ownsRow base e k v n xs := by
 obtain ⟨h1, h2⟩ := h
 refine ⟨h1, ?_⟩
 rcases h2 with h2 | ⟨g, cap, cur, rfl, hg, hh, r⟩
 ·exact .inl h2
 ·exact .inr ⟨g, cap, cur, rfl, hg, by rw [hb g rfl]; exact hh, r⟩

theorem Ow.mono {w w' : World} {ts : List T} {vs : List Value} {F : Nat → Prop} (h : Ow w ts vs F) (hF : ∀ b, F b → w'.heap[b]? = w.heap[b]?) : Ow w' ts vs F := by
 induction h with
 | nil => exact .nil
 | sc h1 _ ih => exact .sc h1 (ih hF)
 | sl e k h1 h2 h3 _ _ h6 h7 ih1 ih2 =>
  exact .sl e k h1 h2 (ownsRow_congr h3 fun b hb => hF b (.inl hb)) (ih1 fun b hb => hF b (.inr (.inl hb))) (ih2 fun b hb => hF b (.inr (.inr hb))) h6 h7

theorem Ow.length {w : World} {ts : List T} {vs : List Value} {F : Nat → Prop} (h : Ow w ts vs F) : ts.length = vs.length := by
 induction h with
 | nil => rfl
 | sc _ _ ih => simp [ih]
 | sl _ _ _ _ _ _ _ _ _ _ ih2 => simp [ih2]

theorem Ow.lt {w : World} {ts : List T} {vs : List Value} {F : Nat → Prop} (h : Ow w ts vs F) : ∀ b, F b → b < w.heap.size := by
 induction h with
 | nil => intro b hb; exact hb.elim
 | sc _ _ ih => exact ih
 | sl e k h1 h2 h3 _ _ h6 h7 ih1 ih2 =>
  intro b hb
  rcases hb with hb | hb | hb
  ·exact (h3.lt b hb).2
  ·exact ih1 b hb
  ·exact ih2 b hb

theorem Ow.one {w : World} {ts : List T} {vs : List Value} {F : Nat → Prop} (h : Ow w ts vs F) : ∀ u ∈ vs, u.oneCell' = true := by
 induction h with
 | nil => simp
 | sc h1 _ ih => intro u hu; rcases List.mem_cons.1 hu with rfl | hu; exact h1; exact ih u hu
 | sl e k h1 h2 h3 _ _ h6 h7 ih1 ih2 =>
  intro u hu
  rcases List.mem_cons.1 hu with rfl | hu
  ·rcases h3.2 with ⟨rfl, _⟩ | ⟨g, cap, cur, rfl, _⟩ <;> rfl
  ·exact ih2 u hu

/-- A row of one's own, its cells known: as the reader sees it. -/
theorem ownsRow_reads {w : World} {e k : Nat} {v : Value} {n : Nat} {cells : List Value} (h : w.ownsRow 0 e k v n cells) :
  ∃ a c, v = .slice a n c ∧ n ≤ c ∧ c ≤ maxLen ∧ (∀ b o s, a = some ⟨b, o, s⟩ → v.ownBlock = some b) ∧ (0 < n → ∃ b, a = some ⟨b, 0, none⟩ ∧ v.ownBlock = some b ∧ ∀ j u, cells[j]? = some u → w.cell? ⟨b, 0 + j, none⟩ = some u) := by
 obtain ⟨h1, h2⟩ := h
 rcases h2 with ⟨rfl, rfl⟩ | ⟨g, cap, cur, rfl, _, hh, hn, hm, hs, ht⟩
 ·exact ⟨none, 0, rfl, Nat.le_refl _, Nat.zero_le _, by simp, fun h0 => absurd h0 (Nat.lt_irrefl 0)⟩
 ·refine ⟨some ⟨g, 0, none⟩, cap, rfl, hn, hm, fun b o s hb => by cases hb; rfl, fun _ => ⟨g, rfl, rfl, fun j u hj => ?_⟩⟩
  have hj2 : cur[j]? = some u := by
   rw [← ht, List.getElem?_take] at hj
   split at hj
   ·simpa using hj
   ·cases hj
  simp [World.cell?, hh, hj2]

theorem Ow.rd {w : World} {O : Nat → Prop} {ts : List T} {vs : List Value} {F : Nat → Prop} (h : Ow w ts vs F) (hO : ∀ b, F b → O b) : Rd w O ts vs := by
 induction h with
 | nil => exact .nil
 | sc h1 _ ih => exact .sc h1 (ih hO)
 | sl e k h1 h2 h3 _ _ h6 h7 ih1 ih2 =>
  obtain ⟨a, c, rfl, hn, hm, _, h0⟩ := ownsRow_reads h3
  refine .sl k ⟨hn, hm⟩ h1 h2 (fun hp => ?_) (ih1 fun b hb => hO b (.inr (.inl hb))) (ih2 fun b hb => hO b (.inr (.inr hb)))
  obtain ⟨b, rfl, hb, hc⟩ := h0 hp
  exact ⟨b, 0, rfl, hO b (.inl hb), hc⟩

theorem Ow.append {w : World} {ts : List T} {vs : List Value} {F : Nat → Prop} (h : Ow w ts vs F) : ∀ {us : List T} {xs : List Value} {G : Nat → Prop}, Ow w us xs G → (∀ b, F b → ¬ G b) →
  ∃ H, Ow w (ts ++ us) (vs ++ xs) H ∧ ∀ b, H b ↔ F b ∨ G b := by
 induction h with
 | nil => intro us xs G h' _; exact ⟨G, h', fun b => by simp⟩
 | sc h1 _ ih =>
  intro us xs G h' hd
  obtain ⟨H, hH, he⟩ := ih h' hd
  exact ⟨H, .sc h1 hH, he⟩
 | sl e k h1 h2 h3 h4 _ h6 h7 ih1 ih2 =>
  intro us xs G h' hd
  obtain ⟨H, hH, he⟩ := ih2 h' fun b hb => hd b (.inr (.inr hb))
  refine ⟨_, .sl e k h1 h2 h3 h4 hH (fun b hb => ⟨(h6 b hb).1, fun hn => ?_⟩) (fun b hb hn => ?_), fun b => ?_⟩
  ·rcases (he b).1 hn with hn | hn
   ·exact (h6 b hb).2 hn
   ·exact hd b (.inl hb) hn
  ·rcases (he b).1 hn with hn | hn
   ·exact h7 b hb hn
   ·exact hd b (.inr (.inl hb)) hn
  ·rw [he b]
   constructor
   ·rintro (h | h | h | h)
    ·exact .inl (.inl h)
    ·exact .inl (.inr (.inl h))
    ·exact .inl (.inr (.inr h))
    ·exact .inr h
   ·rintro ((h | h | h) | h)
    ·exact .inl h
    ·exact .inr (.inl h)
    ·exact .inr (.inr (.inl h))
    ·exact .inr (.inr (.inr h))

/-! ### 2. What a slot holds; resources; witnesses -/
inductive AC where
 | sc (v : Value)
 | ro (rows : List (List T))
 | sl (i off len tot : Nat)
 | bp (i off : Nat)
 | ep (i j off tot : Nat)
 | rp (cells : List T)
 | fn (f : FuncId) (caps : List AC)
 | any

inductive AV where
 | c (x : AC)
 | agg (xs : List AC)
 | tup (xs : List (Bool × List AC))
 | any

inductive Res where
 | box (cs : List AC)
 | row (e k : Nat) (rows : List (List T))
 | gone
 | pin (x : AC) (u : Value)

structure Wit where
 hs : Nat → Value
 fs : Nat → Nat → Prop

def Wit.out (W : Wit) (w : World) (b : Nat) : Prop := b < w.heap.size ∧ ∀ i, ¬ W.fs i b

def slAt (hv v : Value) (k off len : Nat) : Prop :=
 ∃ a n c, hv = .slice a n c ∧ off + len ≤ n ∧ ((v = .slice (a.map fun b => ⟨b.block, off * k, none⟩) len (c - off)) ∨ (len = 0 ∧ 0 < off ∧ ∃ a' c', v = .slice a' 0 c' ∧ c' ≤ maxLen))

inductive AR (W : Wit) (R : List Res) (w : World) : List AC → List Value → Prop
 | nil : AR W R w [] []
 | sc {v : Value} {cs : List AC} {vs : List Value} : v.oneCell' = true → AR W R w cs vs → AR W R w (.sc v :: cs) (v :: vs)
 | ro {rows : List (List T)} {v : Value} {cs : List AC} {vs : List Value} : Rd w (W.out w) [.sl rows] [v] → AR W R w cs vs → AR W R w (.ro rows :: cs) (v :: vs)
 | sl {i off len tot : Nat} {v : Value} {cs : List AC} {vs : List Value} : v.oneCell' = true → i < R.length → (∀ e k rows, R[i]? = some (.row e k rows) → tot ≤ rows.length ∧ (rows.length = tot → slAt (W.hs i) v k off len)) → AR W R w cs vs → AR W R w (.sl i off len tot :: cs) (v :: vs)
 | bp {i off : Nat} {v : Value} {cs : List AC} {vs : List Value} : v.oneCell' = true → i < R.length → (∀ xs, R[i]? = some (.box xs) → ∃ b, W.hs i = .pointer (some ⟨b, 0, none⟩) ∧ v = .pointer (some ⟨b, off, none⟩)) → AR W R w cs vs → AR W R w (.bp i off :: cs) (v :: vs)
 | ep {i j off tot : Nat} {v : Value} {cs : List AC} {vs : List Value} : v.oneCell' = true → i < R.length → (∀ e k rows, R[i]? = some (.row e k rows) → tot ≤ rows.length ∧ (rows.length = tot → ∃ b n c, W.hs i = .slice (some ⟨b, 0, none⟩) n c ∧ v = .pointer (some ⟨b, j * k + off, none⟩))) → AR W R w cs vs → AR W R w (.ep i j off tot :: cs) (v :: vs)
 | rp {ts : List T} {v : Value} {cs : List AC} {vs : List Value} (b o : Nat) (inner : List Value) : v = .pointer (some ⟨b, o, none⟩) → W.out w b → Rd w (W.out w) ts inner → (∀ j u, inner[j]? = some u → w.cell? ⟨b, o + j, none⟩ = some u) → AR W R w cs vs → AR W R w (.rp ts :: cs) (v :: vs)
 | fn {f : FuncId} {caps : List AC} {xs : List Value} {cs : List AC} {vs : List Value} : AR W R w caps xs → AR W R w cs vs → AR W R w (.fn f caps :: cs) (.func (.func f) #[] xs.toArray :: vs)
 | any {v : Value} {cs : List AC} {vs : List Value} : v.oneCell' = true → AR W R w cs vs → AR W R w (.any :: cs) (v :: vs)

/-- One part of several results. -/
def CR (W : Wit) (R : List Res) (w : World) (x : Bool × List AC) (u : Value) : Prop :=
 ∃ vs : List Value, (if x.1 = true then u = .agg vs.toArray else vs = [u]) ∧ AR W R w x.2 vs

def AVR (W : Wit) (R : List Res) (w : World) : AV → Value → Prop
 | .c x, v => AR W R w [x] [v]
 | .agg xs, v => ∃ vs : List Value, v = .agg vs.toArray ∧ AR W R w xs vs
 | .tup xs, v => ∃ us : List Value, v = .tuple us.toArray ∧ us.length = xs.length ∧ ∀ (i : Nat) (x : Bool × List AC) (u : Value), xs[i]? = some x → us[i]? = some u → CR W R w x u
 | .any, _ => True

def ResRel (w : World) (W : Wit) (R : List Res) (v : Value) (F : Nat → Prop) : Res → Prop
 | .box cs => ∃ b arr e, v = .pointer (some ⟨b, 0, none⟩) ∧ (∀ x, F x ↔ x = b) ∧ w.heap[b]? = some (.cells arr e (0, 0)) ∧ AR W R w cs arr.toList
 | .row e k rows => 0 < k ∧ (∀ r ∈ rows, r.length = k) ∧ ∃ cells G, w.ownsRow 0 e k v rows.length cells ∧ Ow w rows.flatten cells G ∧ (∀ b, v.ownBlock = some b → ¬ G b) ∧ ∀ b, F b ↔ v.ownBlock = some b ∨ G b
 | .gone => True
 | .pin x u => (∀ b, ¬ F b) ∧ AR W R w [x] [u]

structure Sep (w : World) (W : Wit) (R : List Res) : Prop where
 res : ∀ i r, R[i]? = some r → ResRel w W R (W.hs i) (W.fs i) r
 out : ∀ i, R.length ≤ i → ∀ b, ¬ W.fs i b
 gone : ∀ i, R[i]? = some .gone → ∀ b, ¬ W.fs i b
 apart : ∀ i j b, W.fs i b → W.fs j b → i = j
 lt : ∀ i b, W.fs i b → b < w.heap.size

/-- How a resource may go on. -/
def Goes (v v' : Value) : Option Res → Option Res → Prop
 | none, _ => True
 | some (.box _), some (.box _) => v' = v
 | some (.row e k a), some (.row e' k' b) => e = e' ∧ k = k' ∧ a.length ≤ b.length ∧ (a.length = b.length → v' = v)
 | some _, some .gone => True
 | some (.pin _ _), some (.pin _ _) => True
 | some _, _ => False

structure Trans (w : World) (W : Wit) (R : List Res) (w' : World) (W' : Wit) (R' : List Res) : Prop where
 os : w'.os = w.os
 tape : w'.tape = w.tape
 output : w'.output = w.output
 size : w.heap.size ≤ w'.heap.size
 frame : ∀ b, W.out w b → w'.heap[b]? = w.heap[b]?
 own : ∀ i b, W'.fs i b → (∃ j, W.fs j b) ∨ w.heap.size ≤ b
 goes : ∀ i, Goes (W.hs i) (W'.hs i) R[i]? R'[i]?

theorem Goes.refl (v : Value) : ∀ r, Goes v v r r
 | none => trivial
 | some (.box _) => rfl
 | some (.row _ _ _) => ⟨rfl, rfl, Nat.le_refl _, fun _ => rfl⟩
 | some .gone => trivial
 | some (.pin _ _) => trivial

theorem Trans.refl (w : World) (W : Wit) (R : List Res) : Trans w W R w W R :=
 ⟨rfl, rfl, rfl, Nat.le_refl _, fun _ _ => rfl, fun i b h => .inl ⟨i, h⟩, fun i => Goes.refl _ _⟩

theorem Goes.trans {v v' v'' : Value} : ∀ {a b c : Option Res}, Goes v v' a b → Goes v' v'' b c → Goes v v'' a c
 | none, _, _, _, _ => trivial
 | some (.box _), some (.box _), some (.box _), h, h' => Eq.trans h' h
 | some (.box _), some (.box _), some .gone, _, _ => trivial
 | some (.box _), some .gone, some .gone, _, _ => trivial
 | some (.row _ _ _), some (.row _ _ _), some (.row _ _ _), ⟨h1, h2, h3, h4⟩, ⟨k1, k2, k3, k4⟩ => ⟨h1.trans k1, h2.trans k2, Nat.le_trans h3 k3, fun h => by
   have e1 := h4 (by omega); have e2 := k4 (by omega); exact e2.trans e1⟩
 | some (.row _ _ _), some (.row _ _ _), some .gone, _, _ => trivial
 | some (.row _ _ _), some .gone, some .gone, _, _ => trivial
 | some .gone, some .gone, some .gone, _, _ => trivial
 | some (.pin _ _), some (.pin _ _), some (.pin _ _), _, _ => trivial
 | some (.pin _ _), some (.pin _ _), some .gone, _, _ => trivial
 | some (.pin _ _), some .gone, some .gone, _, _ => trivial

theorem Wit.out_next {w w' : World} {W W' : Wit} {R R' : List Res} (h : Trans w W R w' W' R') {b : Nat} (hb : W.out w b) : W'.out w' b :=
 ⟨Nat.lt_of_lt_of_le hb.1 h.size, fun i hi => by
  rcases h.own i b hi with ⟨j, hj⟩ | hj
  ·exact hb.2 j hj
  ·exact absurd hb.1 (by omega)⟩

theorem Trans.trans {w w' w'' : World} {W W' W'' : Wit} {R R' R'' : List Res} (h : Trans w W R w' W' R') (k : Trans w' W' R' w'' W'' R'') : Trans w W R w'' W'' R'' :=
 ⟨k.os.trans h.os, k.tape.trans h.tape, k.output.trans h.output, Nat.le_trans h.size k.size,
  fun b hb => (k.frame b (Wit.out_next h hb)).trans (h.frame b hb),
  fun i b hb => by
   rcases k.own i b hb with ⟨j, hj⟩ | hj
   ·exact h.own j b hj
   ·exact .inr (Nat.le_trans h.size hj),
  fun i => (h.goes i).trans (k.goes i)⟩

theorem Trans.rd {w w' : World} {W W' : Wit} {R R' : List Res} (h : Trans w W R w' W' R') {ts : List T} {vs : List Value} (hr : Rd w (W.out w) ts vs) : Rd w' (W'.out w') ts vs :=
 hr.mono fun b hb => ⟨Wit.out_next h hb, h.frame b hb⟩

theorem Trans.len {w w' : World} {W W' : Wit} {R R' : List Res} (h : Trans w W R w' W' R') : R.length ≤ R'.length := by
 rcases Nat.lt_or_ge R'.length R.length with hl | hl
 ·have := h.goes R'.length
  rw [List.getElem?_eq_getElem hl, List.getElem?_eq_none (Nat.le_refl _)] at this
  cases hr : R[R'.length] <;> rw [hr] at this <;> exact this.elim
 ·exact hl

/-- A row's own facts behind a step. -/
theorem Trans.row {w w' : World} {W W' : Wit} {R R' : List Res} (h : Trans w W R w' W' R') {i : Nat} (hi : i < R.length) {e k tot : Nat} {rows : List (List T)} (hr : R'[i]? = some (.row e k rows))
  {p : Value → Nat → Prop} (h3 : ∀ e k rows, R[i]? = some (.row e k rows) → tot ≤ rows.length ∧ (rows.length = tot → p (W.hs i) k)) : tot ≤ rows.length ∧ (rows.length = tot → p (W'.hs i) k) := by
 have hg := h.goes i
 rw [hr, List.getElem?_eq_getElem hi] at hg
 cases hq : R[i] with
 | box xs => rw [hq] at hg; exact hg.elim
 | gone => rw [hq] at hg; exact hg.elim
 | pin x u => rw [hq] at hg; exact hg.elim
 | row e' k' rows' =>
  rw [hq] at hg
  obtain ⟨rfl, rfl, hle, heq⟩ := hg
  obtain ⟨h4, h5⟩ := h3 e' k' rows' (by rw [List.getElem?_eq_getElem hi, hq])
  exact ⟨by omega, fun ht => by rw [heq (by omega)]; exact h5 (by omega)⟩

theorem Trans.box {w w' : World} {W W' : Wit} {R R' : List Res} (h : Trans w W R w' W' R') {i : Nat} (hi : i < R.length) {xs : List AC} (hr : R'[i]? = some (.box xs)) :
  ∃ ys, R[i]? = some (.box ys) ∧ W'.hs i = W.hs i := by
 have hg := h.goes i
 rw [hr, List.getElem?_eq_getElem hi] at hg
 cases hq : R[i] with
 | box ys => rw [hq] at hg; exact ⟨ys, by rw [List.getElem?_eq_getElem hi, hq], hg⟩
 | gone => rw [hq] at hg; exact hg.elim
 | pin x u => rw [hq] at hg; exact hg.elim
 | row e' k' rows' => rw [hq] at hg; exact hg.elim

theorem AR.next {w w' : World} {W W' : Wit} {R R' : List Res} (h : Trans w W R w' W' R') {cs : List AC} {vs : List Value} (ha : AR W R w cs vs) : AR W' R' w' cs vs := by
 have hl := h.len
 induction ha with
 | nil => exact .nil
 | sc h1 _ ih => exact .sc h1 ih
 | ro h1 _ ih => exact .ro (h.rd h1) ih
 | sl h1 h2 h3 _ ih => exact .sl h1 (by omega) (fun e k rows hr => h.row (p := fun hv k => slAt hv _ k _ _) h2 hr h3) ih
 | bp h1 h2 h3 _ ih =>
  refine .bp h1 (by omega) (fun xs hr => ?_) ih
  obtain ⟨ys, hy, he⟩ := h.box h2 hr
  rw [he]; exact h3 ys hy
 | @ep i j off tot v cs vs h1 h2 h3 _ ih => exact .ep h1 (by omega) (fun e k rows hr => h.row (p := fun hv k => ∃ b n c, hv = .slice (some ⟨b, 0, none⟩) n c ∧ v = .pointer (some ⟨b, j * k + off, none⟩)) h2 hr h3) ih
 | rp b o inner h1 h2 h3 h4 _ ih => exact .rp b o inner h1 (Wit.out_next h h2) (h.rd h3) (fun j u hj => by rw [World.cell?_of_block (w := w) (a := ⟨b, o + j, none⟩) (h.frame b h2)]; exact h4 j u hj) ih
 | fn _ _ ih1 ih2 => exact .fn ih1 ih2
 | any h1 _ ih => exact .any h1 ih

theorem AR.length {W : Wit} {R : List Res} {w : World} {cs : List AC} {vs : List Value} (h : AR W R w cs vs) : cs.length = vs.length := by
 induction h <;> simp_all

theorem AR.one {W : Wit} {R : List Res} {w : World} {cs : List AC} {vs : List Value} (h : AR W R w cs vs) : ∀ u ∈ vs, u.oneCell' = true := by
 induction h with
 | nil => simp
 | any h1 _ ih => intro u hu; rcases List.mem_cons.1 hu with rfl | hu; exact h1; exact ih u hu
 | sc h1 _ ih => intro u hu; rcases List.mem_cons.1 hu with rfl | hu; exact h1; exact ih u hu
 | ro h1 _ ih => intro u hu; rcases List.mem_cons.1 hu with rfl | hu; exact h1.one _ (List.mem_cons_self ..); exact ih u hu
 | sl h1 _ _ _ ih => intro u hu; rcases List.mem_cons.1 hu with rfl | hu; exact h1; exact ih u hu
 | bp h1 _ _ _ ih => intro u hu; rcases List.mem_cons.1 hu with rfl | hu; exact h1; exact ih u hu
 | ep h1 _ _ _ ih => intro u hu; rcases List.mem_cons.1 hu with rfl | hu; exact h1; exact ih u hu
 | rp b o inner h1 _ _ _ _ ih => intro u hu; rcases List.mem_cons.1 hu with rfl | hu; subst h1; rfl; exact ih u hu
 | fn _ _ _ ih => intro u hu; rcases List.mem_cons.1 hu with rfl | hu; rfl; exact ih u hu

theorem AR.drop {W : Wit} {R : List Res} {w : World} : ∀ (n : Nat) {cs : List AC} {vs : List Value}, AR W R w cs vs → AR W R w (cs.drop n) (vs.drop n)
 | 0, _, _, h => by simpa using h
 | n + 1, _, _, h => by
  cases h with
  | nil => simpa using .nil
  | any _ h => simpa using AR.drop n h
  | sc _ h => simpa using AR.drop n h
  | ro _ h => simpa using AR.drop n h
  | sl _ _ _ h => simpa using AR.drop n h
  | bp _ _ _ h => simpa using AR.drop n h
  | ep _ _ _ h => simpa using AR.drop n h
  | rp _ _ _ _ _ _ _ h => simpa using AR.drop n h
  | fn _ h => simpa using AR.drop n h

theorem AR.take {W : Wit} {R : List Res} {w : World} : ∀ (n : Nat) {cs : List AC} {vs : List Value}, AR W R w cs vs → AR W R w (cs.take n) (vs.take n)
 | 0, _, _, h => by simpa using .nil
 | n + 1, _, _, h => by
  cases h with
  | nil => simpa using .nil
  | any h1 h => simpa using AR.any h1 (AR.take n h)
  | sc h1 h => simpa using AR.sc h1 (AR.take n h)
  | ro h1 h => simpa using AR.ro h1 (AR.take n h)
  | sl h1 h2 h3 h => simpa using AR.sl h1 h2 h3 (AR.take n h)
  | bp h1 h2 h3 h => simpa using AR.bp h1 h2 h3 (AR.take n h)
  | ep h1 h2 h3 h => simpa using AR.ep h1 h2 h3 (AR.take n h)
  | rp b o inner h1 h2 h3 h4 h => simpa using AR.rp b o inner h1 h2 h3 h4 (AR.take n h)
  | fn h1 h => simpa using AR.fn h1 (AR.take n h)

theorem AR.append {W : Wit} {R : List Res} {w : World} {cs : List AC} {vs : List Value} (h : AR W R w cs vs) {ds : List AC} {us : List Value} (h' : AR W R w ds us) : AR W R w (cs ++ ds) (vs ++ us) := by
 induction h with
 | nil => exact h'
 | any h1 _ ih => exact .any h1 ih
 | sc h1 _ ih => exact .sc h1 ih
 | ro h1 _ ih => exact .ro h1 ih
 | sl h1 h2 h3 _ ih => exact .sl h1 h2 h3 ih
 | bp h1 h2 h3 _ ih => exact .bp h1 h2 h3 ih
 | ep h1 h2 h3 _ ih => exact .ep h1 h2 h3 ih
 | rp b o inner h1 h2 h3 h4 _ ih => exact .rp b o inner h1 h2 h3 h4 ih
 | fn h1 _ _ ih2 => exact .fn h1 ih2

/-- A tree as a cell that is read alone. -/
def tc : T → AC
 | .sc v => .sc v
 | .sl rows => .ro rows
/-- A tree of one's own as a cell: what lies below is not looked at. -/
def tco : T → AC
 | .sc v => .sc v
 | .sl _ => .any

theorem Rd.ar_ {W : Wit} {R : List Res} {w : World} {O : Nat → Prop} {ts : List T} {vs : List Value} (h : Rd w O ts vs) (e : O = W.out w) : AR W R w (ts.map tc) vs := by
 induction h with
 | nil => exact .nil
 | sc h1 _ ih => exact .sc h1 ih
 | sl k h1 h2 h3 h4 h5 _ _ ih2 => subst e; exact .ro (.sl k h1 h2 h3 h4 h5 .nil) ih2

theorem Rd.ar {W : Wit} {R : List Res} {w : World} {ts : List T} {vs : List Value} (h : Rd w (W.out w) ts vs) : AR W R w (ts.map tc) vs := Rd.ar_ h rfl

theorem Ow.ar {W : Wit} {R : List Res} {w : World} {ts : List T} {vs : List Value} {F : Nat → Prop} (h : Ow w ts vs F) : AR W R w (ts.map tco) vs := by
 induction h with
 | nil => exact .nil
 | sc h1 _ ih => exact .sc h1 ih
 | sl e k h1 h2 h3 h4 h5 h6 h7 _ ih2 => exact .any ((Ow.sl e k h1 h2 h3 h4 h5 h6 h7).one _ (List.mem_cons_self ..)) ih2

theorem AVR.next {w w' : World} {W W' : Wit} {R R' : List Res} (h : Trans w W R w' W' R') {x : AV} {v : Value} (hx : AVR W R w x v) : AVR W' R' w' x v := by
 cases x with
 | c x => exact AR.next h hx
 | agg xs =>
  obtain ⟨vs, e, hx⟩ := hx
  exact ⟨vs, e, hx.next h⟩
 | tup xs =>
  obtain ⟨us, e, hl, hx⟩ := hx
  refine ⟨us, e, hl, fun i x u h1 h2 => ?_⟩
  obtain ⟨vs, e1, e2⟩ := hx i x u h1 h2
  exact ⟨vs, e1, e2.next h⟩
 | any => trivial

/-! ### 3. Steps -/
theorem ResRel.next {w w' : World} {W W' : Wit} {R R' : List Res} (h : Trans w W R w' W' R') {v : Value} {F : Nat → Prop} {r : Res} (hr : ResRel w W R v F r) (hF : ∀ b, F b → w'.heap[b]? = w.heap[b]?) : ResRel w' W' R' v F r := by
 cases r with
 | box cs =>
  obtain ⟨b, arr, e, h1, h2, h3, h4⟩ := hr
  exact ⟨b, arr, e, h1, h2, by rw [hF b ((h2 b).2 rfl)]; exact h3, h4.next h⟩
 | row e k rows =>
  obtain ⟨h1, h2, cells, G, h3, h4, h5, h6⟩ := hr
  exact ⟨h1, h2, cells, G, ownsRow_congr h3 fun b hb => hF b ((h6 b).2 (.inl hb)), h4.mono fun b hb => hF b ((h6 b).2 (.inr hb)), h5, h6⟩
 | gone => trivial
 | pin x u =>
  obtain ⟨h1, h2⟩ := hr
  exact ⟨h1, h2.next h⟩

/-- One resource is turned, or a new one laid; the others stay. -/
theorem Sep.step {w w' : World} {W W' : Wit} {R R' : List Res} (hs : Sep w W R) (h : Trans w W R w' W' R') (i : Nat) (hlen : ∀ j, R.length ≤ j → j ≠ i → R'.length ≤ j)
  (hR : ∀ j, j ≠ i → j < R.length → R'[j]? = R[j]?) (hh : ∀ j, j ≠ i → W'.hs j = W.hs j) (hf : ∀ j, j ≠ i → ∀ b, W'.fs j b ↔ W.fs j b)
  (hF : ∀ j, j ≠ i → ∀ b, W.fs j b → w'.heap[b]? = w.heap[b]?) (hi : ∀ r, R'[i]? = some r → ResRel w' W' R' (W'.hs i) (W'.fs i) r)
  (hnew : ∀ b, W'.fs i b → W.fs i b ∨ w.heap.size ≤ b) (hlt : ∀ b, W'.fs i b → b < w'.heap.size) (hout : R'.length ≤ i → ∀ b, ¬ W'.fs i b) (hgone : R'[i]? = some .gone → ∀ b, ¬ W'.fs i b) : Sep w' W' R' := by
 have hff : ∀ j, j ≠ i → W'.fs j = W.fs j := fun j hj => funext fun b => propext (hf j hj b)
 refine ⟨fun j r hr => ?_, fun j hj b hb => ?_, fun j hj b hb => ?_, fun j k b hj hk => ?_, fun j b hb => ?_⟩
 ·by_cases e : j = i
  ·subst e; exact hi r hr
  ·have hj : j < R.length := by
    rcases Nat.lt_or_ge j R.length with h' | h'
    ·exact h'
    ·rw [List.getElem?_eq_none (hlen j h' e)] at hr; cases hr
   rw [hh j e, hff j e]
   exact (hs.res j r (by rw [← hR j e hj]; exact hr)).next h (hF j e)
 ·by_cases e : j = i
  ·subst e; exact hout hj b hb
  ·have : R.length ≤ j := by
    rcases Nat.lt_or_ge j R.length with h' | h'
    ·have := hR j e h'
     rw [List.getElem?_eq_none hj, List.getElem?_eq_getElem h'] at this
     cases this
    ·exact h'
   exact hs.out j this b ((hf j e b).1 hb)
 ·by_cases e : j = i
  ·subst e; exact hgone hj b hb
  ·have hj' : j < R.length := by
    rcases Nat.lt_or_ge j R.length with h' | h'
    ·exact h'
    ·rw [List.getElem?_eq_none (hlen j h' e)] at hj; cases hj
   exact hs.gone j (by rw [← hR j e hj']; exact hj) b ((hf j e b).1 hb)
 ·by_cases e1 : j = i
  ·by_cases e2 : k = i
   ·omega
   ·subst e1
    have hk' := (hf k e2 b).1 hk
    rcases hnew b hj with h1 | h1
    ·exact hs.apart j k b h1 hk'
    ·exact absurd (hs.lt k b hk') (by omega)
  ·by_cases e2 : k = i
   ·subst e2
    have hj' := (hf j e1 b).1 hj
    rcases hnew b hk with h1 | h1
    ·exact hs.apart j k b hj' h1
    ·exact absurd (hs.lt j b hj') (by omega)
   ·exact hs.apart j k b ((hf j e1 b).1 hj) ((hf k e2 b).1 hk)
 ·by_cases e : j = i
  ·subst e; exact hlt b hb
  ·exact Nat.lt_of_lt_of_le (hs.lt j b ((hf j e b).1 hb)) h.size

end Go.Proofs.YthnadkagchbhbaaGreat.E

namespace Go.Proofs.YthnadkagchbhbaaGreat.E
open Go Go.RowKit
set_option linter.unusedVariables false
set_option linter.unusedSimpArgs false

abbrev Slots := List (Nat × AV)

def get : Slots → Nat → AV
 | [], _ => .any
 | (d, v) :: s, t => if d = t then v else get s t

theorem AVR.any (W : Wit) (R : List Res) (w : World) (v : Value) : AVR W R w .any v := trivial

theorem AR.sc_inv {W : Wit} {R : List Res} {w : World} {v u : Value} (h : AR W R w [.sc v] [u]) : u = v := by
 cases h with
 | sc _ _ => rfl

structure Now (N : Nat) (s : Slots) (R : List Res) (a : Act) (w : World) (W : Wit) : Prop where
 size : a.tmps.size = N
 defers : a.defers = []
 val : ∀ t, AVR W R w (get s t) (a.tmps.getD t undef)
 sep : Sep w W R

def Reach (N : Nat) (w : World) (W : Wit) (R : List Res) (K : Slots → List Res → Prop) (a' : Act) (w' : World) : Prop :=
 ∃ s' R' W', K s' R' ∧ Now N s' R' a' w' W' ∧ Trans w W R w' W' R'

theorem Reach.mono {N : Nat} {w : World} {W : Wit} {R : List Res} {K K' : Slots → List Res → Prop} {a' : Act} {w' : World} (h : Reach N w W R K a' w') (hk : ∀ s R, K s R → K' s R) : Reach N w W R K' a' w' := by
 obtain ⟨s', R', W', h1, h2⟩ := h
 exact ⟨s', R', W', hk _ _ h1, h2⟩

theorem Reach.after {N : Nat} {w w1 : World} {W W1 : Wit} {R R1 : List Res} {K : Slots → List Res → Prop} {a' : Act} {w' : World} (h : Reach N w1 W1 R1 K a' w') (ht : Trans w W R w1 W1 R1) : Reach N w W R K a' w' := by
 obtain ⟨s', R', W', h1, h2, h3⟩ := h
 exact ⟨s', R', W', h1, h2, ht.trans h3⟩

def ECode (P : Program) (N : Nat) (c : Code) (s : Slots) (R : List Res) (Q : Exit → Slots → List Res → Prop) : Prop :=
 ∀ a w W, Now N s R a w W → c.wp P (fun ex a' w' => Reach N w W R (Q ex) a' w') a w

def EThen (next : Slots → List Res → Prop) (Q : Exit → Slots → List Res → Prop) : Exit → Slots → List Res → Prop
 | .normal => next
 | e => Q e

def EBlock (id : Nat) (Q : Exit → Slots → List Res → Prop) : Exit → Slots → List Res → Prop
 | .exit id' => if id' = id then Q .normal else Q (.exit id')
 | e => Q e

section
variable {P : Program} {N : Nat} {s : Slots} {R : List Res} {Q : Exit → Slots → List Res → Prop}

theorem ECode.mono {c : Code} {Q' : Exit → Slots → List Res → Prop} (h : ECode P N c s R Q) (hq : ∀ e s R, Q e s R → Q' e s R) : ECode P N c s R Q' :=
 fun a w W hn => wp_mono (h a w W hn) fun e a' w' hr => hr.mono (hq e)

theorem E_seq {x y : Code} (h : ECode P N x s R (EThen (fun s' R' => ECode P N y s' R' Q) Q)) : ECode P N (.seq x y) s R Q := by
 intro a w W hn
 refine wp_seq (wp_mono (h a w W hn) fun e a1 w1 hr => ?_)
 cases e with
 | normal =>
  obtain ⟨s1, R1, W1, h1, h2, h3⟩ := hr
  exact wp_mono (h1 a1 w1 W1 h2) fun e a' w' hr' => hr'.after h3
 | exit id => exact hr
 | goto l => exact hr
 | ret => exact hr
 | panic ch => exact hr
 | outgrown => exact hr

theorem E_skip (h : Q .normal s R) : ECode P N .skip s R Q := fun a w W hn => wp_skip ⟨s, R, W, h, hn, .refl ..⟩
theorem E_exit {id : Nat} (h : Q (.exit id) s R) : ECode P N (.exit id) s R Q := fun a w W hn => wp_exit ⟨s, R, W, h, hn, .refl ..⟩
theorem E_ret (h : Q .ret s R) : ECode P N .ret s R Q := fun a w W hn => wp_ret ⟨s, R, W, h, hn, .refl ..⟩

theorem E_cond {t : Nat} {b : Bool} {x y : Code} (hb : get s t = .c (.sc (.bool b))) (h1 : b = true → ECode P N x s R Q) (h2 : b = false → ECode P N y s R Q) : ECode P N (.cond (.tmp t) x y) s R Q := by
 intro a w W hn
 have hv := hn.val t
 rw [hb] at hv
 have he : a.eval (.tmp t) = .bool b := AR.sc_inv hv
 exact wp_cond_split he (fun h => h1 h a w W hn) (fun h => h2 h a w W hn)

theorem E_block {id : Nat} {c : Code} (h : ECode P N c s R (EBlock id Q)) : ECode P N (.block id c) s R Q := by
 intro a w W hn
 refine wp_block (wp_mono (h a w W hn) fun e a' w' hr => ?_)
 cases e with
 | exit id' =>
  simp only [Exit.inBlock, EBlock] at hr ⊢
  split at hr <;> simp_all
 | normal => exact hr
 | goto l => exact hr
 | ret => exact hr
 | panic ch => exact hr
 | outgrown => exact hr

/-- A loop: I says, with a number that falls, what holds at a round's head. -/
theorem E_loop {c : Code} (I : Nat → Slots → List Res → Prop) (n0 : Nat) (h0 : I n0 s R)
  (round : ∀ n s R, I n s R → ECode P N c s R (EThen (fun s' R' => ∃ m, m < n ∧ I m s' R') Q)) : ECode P N (.loop c) s R Q := by
 intro a w W hn
 intro b k cs
 have key : ∀ n a1 w1, (∃ s1 R1 W1, I n s1 R1 ∧ Now N s1 R1 a1 w1 W1 ∧ Trans w W R w1 W1 R1) →
   ∃ e a' w', Reach N w W R (Q e) a' w' ∧ Arrives P (lone (b.at a1 (.code c :: .inLoop c :: k)) cs w1) b k cs e a' w' := by
  intro n
  induction n using Nat.strongRecOn with
  | _ n ih =>
   rintro a1 w1 ⟨s1, R1, W1, hI, hn1, ht1⟩
   obtain ⟨e, a2, w2, hq, harr⟩ := round n s1 R1 hI a1 w1 W1 hn1 b (.inLoop c :: k) cs
   cases e with
   | normal =>
    obtain ⟨s2, R2, W2, ⟨m, hm, hI2⟩, hn2, ht2⟩ := hq
    obtain ⟨e3, a3, w3, hq3, harr3⟩ := ih m hm a2 w2 ⟨s2, R2, W2, hI2, hn2, ht1.trans ht2⟩
    exact ⟨e3, a3, w3, hq3, .of_steps (Steps.trans harr (.one step_inLoop)) harr3⟩
   | exit id => exact ⟨_, a2, w2, hq.after ht1, .pass (x := .inLoop c) rfl (fun _ _ => .inl (by simp)) harr⟩
   | goto l => exact ⟨_, a2, w2, hq.after ht1, .pass (x := .inLoop c) rfl (fun _ _ => .inl (by simp)) harr⟩
   | ret => exact ⟨_, a2, w2, hq.after ht1, .pass (x := .inLoop c) rfl (fun _ _ => .inl (by simp)) harr⟩
   | panic ch => exact ⟨_, a2, w2, hq.after ht1, .pass (x := .inLoop c) rfl (fun _ _ => .inl (by simp)) harr⟩
   | outgrown => exact ⟨_, a2, w2, hq.after ht1, .pass (x := .inLoop c) rfl (fun _ _ => .inl (by simp)) harr⟩
 obtain ⟨e, a', w', hq, harr⟩ := key n0 a w ⟨s, R, W, h0, hn, .refl ..⟩
 exact ⟨e, a', w', hq, .of_steps (.one step_loop) harr⟩

end

/-! ### Fewer slots, fewer resources -/
def AC.top : AC → Nat   -- one more than the greatest resource that is named
 | .sl i _ _ _ => i + 1
 | .bp i _ => i + 1
 | .ep i _ _ _ => i + 1
 | .fn _ caps => tops caps
 | _ => 0
where tops : List AC → Nat
 | [] => 0
 | c :: cs => max c.top (tops cs)

end Go.Proofs.YthnadkagchbhbaaGreat.E

namespace Go.Proofs.YthnadkagchbhbaaGreat.E
open Go Go.RowKit
set_option linter.unusedVariables false
set_option linter.unusedSimpArgs false

/-! ### 1. Operands -/
def cv (v : Value) : AV := match v with
 | .agg _ | .tuple _ => .any
 | v => .c (.sc v)

def ev (s : Slots) : Operand → AV
 | .tmp t => get s t
 | .const v => cv v
 | .func f => .c (.fn f [])
 | .global _ => .any

theorem AR.sc1 {W : Wit} {R : List Res} {w : World} {v : Value} (h : v.oneCell' = true) : AR W R w [.sc v] [v] := .sc h .nil

theorem cv_rel (W : Wit) (R : List Res) (w : World) (v : Value) : AVR W R w (cv v) v := by
 unfold cv
 split
 ·exact AVR.any ..
 ·exact AVR.any ..
 ·rename_i h1 h2
  exact AR.sc1 (by cases v <;> first | rfl | exact absurd rfl (h1 _) | exact absurd rfl (h2 _))

theorem Now.ev {N : Nat} {s : Slots} {R : List Res} {a : Act} {w : World} {W : Wit} (h : Now N s R a w W) (x : Operand) : AVR W R w (ev s x) (a.eval x) := by
 cases x with
 | tmp t => exact h.val t
 | const v => exact cv_rel ..
 | global g => exact AVR.any ..
 | func f => exact AR.fn (xs := []) .nil .nil

theorem Now.put {N : Nat} {s : Slots} {R : List Res} {a : Act} {w : World} {W : Wit} (h : Now N s R a w W) {d : Nat} (hd : d < N) {y : AV} {v : Value} (hv : AVR W R w y v) : Now N ((d, y) :: s) R (a.put (some d) v) w W := by
 refine ⟨by simp [Act.put, h.size], h.defers, fun t => ?_, h.sep⟩
 simp only [E.get, Act.put]
 by_cases e : d = t
 ·subst e
  rw [if_pos rfl]
  simpa [Array.getD_eq_getD_getElem?, h.size, hd] using hv
 ·rw [if_neg e]
  have := h.val t
  simpa [Array.getD_eq_getD_getElem?, Array.getElem?_setIfInBounds, e] using this

theorem Now.next {N : Nat} {s : Slots} {R R' : List Res} {a : Act} {w w' : World} {W W' : Wit} (h : Now N s R a w W) (ht : Trans w W R w' W' R') (hs : Sep w' W' R') : Now N s R' a w' W' :=
 ⟨h.size, h.defers, fun t => (h.val t).next ht, hs⟩

/-! ### 2. Operations -/
def EOp (P : Program) (N : Nat) (o : Oper) (s : Slots) (R : List Res) (K : Slots → List Res → Prop) : Prop :=
 ∀ Q a w W, Now N s R a w W → o.wp P a w (fun a' w' => Reach N w W R K a' w') Q

def EOps (P : Program) (N : Nat) (ops : Array Oper) (L : List Nat) (s : Slots) (R : List Res) (K : Slots → List Res → Prop) : Prop :=
 ∀ Q a w W, Now N s R a w W → (∀ a' w', Reach N w W R K a' w' → Q .normal a' w') → wpOps P ops Q L a w

/-- Is an operation carried out? -/
def want (ops : Array Oper) (o : Oper) (s : Slots) : Option Bool :=
 match o.guard with
 | none => some true
 | some (j, b) => match (ops[j]?).bind (·.dst) with
  | some d => match get s d with
   | .c (.sc (.bool x)) => some (x == b)
   | .tup [] => some false
   | _ => none
  | none => none

section
variable {P : Program} {N : Nat} {ops : Array Oper} {s : Slots} {R : List Res} {K : Slots → List Res → Prop}

theorem want_real {o : Oper} {b : Bool} {a : Act} {w : World} {W : Wit} (hn : Now N s R a w W) (h : want ops o s = some b) : Region.wanted o (yielded ops a.tmps) = b := by
 unfold want at h
 unfold Region.wanted
 cases hg : o.guard with
 | none => rw [hg] at h; simpa using h
 | some jb =>
  obtain ⟨j, c⟩ := jb
  rw [hg] at h
  simp only at h ⊢
  cases hd : (ops[j]?).bind (·.dst) with
  | none => rw [hd] at h; cases h
  | some d =>
   rw [hd] at h
   simp only at h
   have hv := hn.val d
   split at h
   ·rename_i x hx
    rw [hx] at hv
    have e := AR.sc_inv hv
    have hy : yielded ops a.tmps j = some x := by
     unfold yielded
     rw [hd]
     simp only [Option.bind_some]
     cases ht : a.tmps[d]? with
     | none => simp [Array.getD_eq_getD_getElem?, ht, undef] at e
     | some u =>
      simp [Array.getD_eq_getD_getElem?, ht] at e
      subst e
      rfl
    rw [hy]
    have : (x == c) = b := by simpa using h
    rw [← this]
    rfl
   ·rename_i hx
    rw [hx] at hv
    obtain ⟨us, e, hl, _⟩ := hv
    obtain rfl : us = [] := List.length_eq_zero_iff.1 hl
    have hy : yielded ops a.tmps j = none := by
     unfold yielded
     rw [hd]
     simp only [Option.bind_some]
     cases ht : a.tmps[d]? with
     | none => rfl
     | some u =>
      simp [Array.getD_eq_getD_getElem?, ht] at e
      subst e
      rfl
    rw [hy]
    obtain rfl : false = b := Option.some.inj h
    rfl
   ·cases h

theorem EOps_nil (h : K s R) : EOps P N ops [] s R K := fun Q a w W hn hq => hq a w ⟨s, R, W, h, hn, .refl ..⟩

theorem EOps_go {i : Nat} {rest : List Nat} {o : Oper} (ho : ops[i]? = some o) (hw : want ops o s = some true) (h : EOp P N o s R (fun s' R' => EOps P N ops rest s' R' K)) : EOps P N ops (i :: rest) s R K := by
 intro Q a w W hn hq
 simp only [wpOps, ho, want_real hn hw, if_true]
 refine .inl (Oper.wp_mono (fun a1 w1 hr => ?_) (h Q a w W hn))
 obtain ⟨s1, R1, W1, h1, h2, h3⟩ := hr
 exact h1 Q a1 w1 W1 h2 fun a' w' hr' => hq a' w' (hr'.after h3)

def fill (s : Slots) : Option Tmp → Slots
 | some d => (d, .tup []) :: s
 | none => s

theorem AVR.undef (W : Wit) (R : List Res) (w : World) : AVR W R w (.tup []) undef := ⟨[], rfl, rfl, fun i x u h => by simp at h⟩

theorem EOps_skip {i : Nat} {rest : List Nat} {o : Oper} (ho : ops[i]? = some o) (hw : want ops o s = some false) (hd : ∀ d, o.dst = some d → d < N) (h : EOps P N ops rest (fill s o.dst) R K) : EOps P N ops (i :: rest) s R K := by
 intro Q a w W hn hq
 simp only [wpOps, ho, want_real hn hw, if_false, Bool.false_eq_true]
 refine h Q (a.put o.dst undef) w W ?_ hq
 cases hdd : o.dst with
 | none => exact hn
 | some d => exact hn.put (hd d hdd) (AVR.undef ..)

theorem E_region {id : Nat} {Q : Exit → Slots → List Res → Prop} (h : EOps P N ops (List.range ops.size) s R (Q .normal)) : ECode P N (.region id ops false) s R Q :=
 fun a w W hn => wp_region (h _ a w W hn fun a' w' hr => hr)

/-- An operation that yields a value and leaves the world alone, now and while nothing that stands is turned. -/
def Light (P : Program) (o : Oper) (s : Slots) (R : List Res) (y : AV) : Prop :=
 ∀ N a w W, Now N s R a w W → ∃ v, AVR W R w y v ∧ ∀ w', Below w.heap.size w w' → (execOp a.eval o).run P w' = .ok (.value v) w'

/-- The same, whatever the world. -/
def Pure (P : Program) (o : Oper) (s : Slots) (R : List Res) (y : AV) : Prop :=
 ∀ N a w W, Now N s R a w W → ∃ v, AVR W R w y v ∧ ∀ w', (execOp a.eval o).run P w' = .ok (.value v) w'

theorem Pure.light {o : Oper} {y : AV} (h : Pure P o s R y) : Light P o s R y := fun N a w W hn => by
 obtain ⟨v, h1, h2⟩ := h N a w W hn
 exact ⟨v, h1, fun w' _ => h2 w'⟩

theorem EOp_light {o : Oper} {d : Nat} {y : AV} (hd : o.dst = some d) (hN : d < N) (hv : Light P o s R y) (h : K ((d, y) :: s) R) : EOp P N o s R K := by
 intro Q a w W hn
 obtain ⟨v, hy, hr⟩ := hv N a w W hn
 unfold Oper.wp
 rw [hr w (Below.refl ..), Oper.upon_value, hd]
 exact ⟨_, R, W, h, hn.put hN hy, .refl ..⟩

theorem L_move {o : Oper} {x : Operand} (ho : o.op = .move x) : Pure P o s R (ev s x) := fun N a w W hn => ⟨a.eval x, hn.ev x, fun w' => by simp [execOp, ho]⟩
theorem L_assign {o : Oper} {x : Operand} (ho : o.op = .assign x) : Pure P o s R (ev s x) := fun N a w W hn => ⟨a.eval x, hn.ev x, fun w' => by simp [execOp, ho]⟩

theorem Now.sc {a : Act} {w : World} {W : Wit} (hn : Now N s R a w W) {x : Operand} {v : Value} (hx : E.ev s x = .c (.sc v)) : a.eval x = v := by
 have := hn.ev x
 rw [hx] at this
 exact AR.sc_inv this

theorem L_pick {o : Oper} {c x y : Operand} {b : Bool} (ho : o.op = .pick c x y) (hc : ev s c = .c (.sc (.bool b))) : Pure P o s R (if b then ev s x else ev s y) := fun N a w W hn =>
 ⟨if b then a.eval x else a.eval y, by cases b <;> simp [hn.ev], fun w' => by simp [execOp, ho, hn.sc hc, asBool]⟩

theorem L_not {o : Oper} {t : Nat} {x : Operand} {b : Bool} (ho : o.op = .unOp .not t x) (hc : ev s x = .c (.sc (.bool b))) : Pure P o s R (.c (.sc (.bool !b))) := fun N a w W hn =>
 ⟨.bool !b, AR.sc1 (v := .bool !b) rfl, fun w' => by simp [execOp, ho, hn.sc hc, Op.unary]⟩

/-- What a binary operation on scalars comes to. -/
def binV : BinOp → Value → Value → Option Value
 | .add, .int .i64 x, .int .i64 y => some (.int .i64 (IntKind.i64.wrap (x + y)))
 | .sub, .int .i64 x, .int .i64 y => some (.int .i64 (IntKind.i64.wrap (x - y)))
 | .mul, .int .i64 x, .int .i64 y => some (.int .i64 (IntKind.i64.wrap (x * y)))
 | .lss, .int .i64 x, .int .i64 y => some (.bool (x < y))
 | .leq, .int .i64 x, .int .i64 y => some (.bool (x ≤ y))
 | .gtr, .int .i64 x, .int .i64 y => some (.bool (x > y))
 | .geq, .int .i64 x, .int .i64 y => some (.bool (x ≥ y))
 | .eql, .int .i64 x, .int .i64 y => some (.bool (x == y))
 | .neq, .int .i64 x, .int .i64 y => some (.bool (x != y))
 | _, _, _ => none

theorem binV_run {op : BinOp} {x y v : Value} (h : binV op x y = some v) (P : Program) (t : TypeId) (w : World) (p q : Operand) : (do eqGuard op t p q x y; binOp op t x y).run P w = .ok v w := by
 unfold binV at h
 split at h <;> first | (cases h; done) | (obtain rfl := Option.some.inj h; simp [eqGuard, binOp, Op.intArith, Op.intCmp])

theorem L_bin {o : Oper} {t t' : Nat} {op : BinOp} {x y : Operand} {u u' v : Value} (ho : o.op = .binOp op t x y t') (hx : ev s x = .c (.sc u)) (hy : ev s y = .c (.sc u')) (hv : binV op u u' = some v) : Pure P o s R (.c (.sc v)) := fun N a w W hn =>
 ⟨v, AR.sc1 (v := v) (by unfold binV at hv; split at hv <;> first | (cases hv; done) | (obtain rfl := Option.some.inj hv; rfl)), fun w' => by
  have := binV_run hv P t w' x y
  simp only [execOp, ho, hn.sc hx, hn.sc hy]
  simp only [Sem.run_bind] at this ⊢
  rw [this]; rfl⟩

end
end Go.Proofs.YthnadkagchbhbaaGreat.E

namespace Go.Proofs.YthnadkagchbhbaaGreat.E
open Go Go.RowKit
set_option linter.unusedVariables false
set_option linter.unusedSimpArgs false

/-! ### 1. The machine's own words -/
def aggD : TypeDesc → Bool
 | .struct _ => true
 | .array _ _ => true
 | _ => false

/-- Is a type a struct or an array, and how many cells has it. -/
def tyIs (P : Program) (t : TypeId) : Option (Bool × Nat) :=
 match P.underlying t, P.info? t with
 | some d, some i => some (aggD d, i.size)
 | _, _ => none

theorem add_plain (b o j : Nat) : (⟨b, o, none⟩ : Addr).add j = ⟨b, o + j, none⟩ := by
 unfold Addr.add
 split
 ·rename_i h; simp [h]
 ·rfl

section
variable {P : Program} {t n : Nat} {agg : Bool}

theorem tyIs_parts (h : tyIs P t = some (agg, n)) : ∃ d i, P.underlying t = some d ∧ aggD d = agg ∧ P.info? t = some i ∧ i.size = n := by
 unfold tyIs at h
 split at h
 ·rename_i d i h1 h2
  obtain ⟨rfl, rfl⟩ := Prod.mk.inj (Option.some.inj h)
  exact ⟨d, i, h1, rfl, h2, rfl⟩
 ·cases h

theorem run_isAgg_ (h : tyIs P t = some (agg, n)) (w : World) : (isAgg t).run P w = .ok agg w := by
 obtain ⟨d, i, h1, rfl, h2, rfl⟩ := tyIs_parts h
 simp only [isAgg, underlying, Sem.run_bind, run_program, Result.andThen_ok, h1, Sem.run_pure]
 cases d <;> rfl

theorem run_sizeOf_ (h : tyIs P t = some (agg, n)) (w : World) : (sizeOf t).run P w = .ok n w := by
 obtain ⟨d, i, h1, rfl, h2, rfl⟩ := tyIs_parts h
 simp [sizeOf, typeInfo, h2]

theorem run_load_at {w : World} {a : Addr} {v : Value} (h : w.cell? a = some v) (m : Mode) : (load a m).run P w = .ok v w := by
 simp [load, Sem.run, h]

theorem run_loadCellsFrom {w : World} {b o : Nat} : ∀ (vs : List Value) (i : Nat) (acc : Array Value), (∀ j u, vs[j]? = some u → w.cell? ⟨b, o + (i + j), none⟩ = some u) →
  (loadCellsFrom ⟨b, o, none⟩ i vs.length acc).run P w = .ok (acc ++ vs.toArray) w
 | [], i, acc, _ => by simp [loadCellsFrom]
 | v :: vs, i, acc, h => by
  have h0 := h 0 v rfl
  simp only [List.length_cons, loadCellsFrom, Sem.run_bind, add_plain]
  rw [run_load_at (by simpa using h0)]
  simp only [Result.andThen_ok]
  rw [run_loadCellsFrom vs (i + 1) _ (fun j u hj => by have := h (j + 1) u hj; rwa [show i + 1 + j = i + (j + 1) by omega])]
  simp

theorem run_loadCells_ {w : World} {b o : Nat} (vs : List Value) (h : ∀ j u, vs[j]? = some u → w.cell? ⟨b, o + j, none⟩ = some u) : (loadCells ⟨b, o, none⟩ vs.length).run P w = .ok vs.toArray w := by
 have := run_loadCellsFrom (P := P) vs 0 #[] (w := w) (b := b) (o := o) (by simpa using h)
 simpa [loadCells] using this

/-- A variable's value, its cells known. -/
def asV (agg : Bool) (vs : List Value) : Value := if agg then .agg vs.toArray else vs.headD undef

theorem run_loadVar_ {w : World} {b o : Nat} (ht : tyIs P t = some (agg, n)) (vs : List Value) (hl : vs.length = n) (h1 : agg = false → n = 1) (h : ∀ j u, vs[j]? = some u → w.cell? ⟨b, o + j, none⟩ = some u) :
  (loadVar t ⟨b, o, none⟩).run P w = .ok (asV agg vs) w := by
 subst hl
 simp only [loadVar, Sem.run_bind, run_isAgg_ ht, Result.andThen_ok]
 cases agg with
 | true =>
  simp only [if_true, Sem.run_bind, run_sizeOf_ ht, Result.andThen_ok, run_loadCells_ vs h]
  rfl
 | false =>
  have h2 := h1 rfl
  match vs, h2 with
  | [u], _ =>
   simp only [Bool.false_eq_true, if_false]
   rw [run_load_at (by simpa using h 0 u rfl)]
   rfl

theorem heap_setCell_at {w : World} {b o : Nat} {arr : Array Value} {e : TypeId} (hb : w.heap[b]? = some (.cells arr e (0, 0))) (v : Value) : (w.setCell ⟨b, o, none⟩ v).heap[b]? = some (.cells (arr.setIfInBounds o v) e (0, 0)) := by
 simp [World.setCell, Array.getElem?_modify, hb]

theorem heap_setCell_ne {w : World} {b c o : Nat} (h : c ≠ b) (v : Value) : (w.setCell ⟨b, o, none⟩ v).heap[c]? = w.heap[c]? := by
 simp only [World.setCell, Array.getElem?_modify]
 rw [if_neg (fun e => h e.symm)]

/-- A list with a part of it turned. -/
def splice {α : Type} (l : List α) (o : Nat) (ys : List α) : List α := l.take o ++ ys ++ l.drop (o + ys.length)

theorem splice_nil {α : Type} (l : List α) (o : Nat) : splice l o [] = l := by simp [splice]
theorem splice_cons {α : Type} (l : List α) (o : Nat) (y : α) (ys : List α) (h : o < l.length) : splice (l.set o y) (o + 1) ys = splice l o (y :: ys) := by
 simp only [splice, List.length_cons]
 rw [List.take_set, List.drop_set_of_lt (by omega)]
 have e1 : (l.take (o + 1)).set o y = l.take o ++ [y] := by
  rw [List.take_succ_eq_append_getElem h, List.set_append]
  simp [Nat.min_eq_left (Nat.le_of_lt h)]
 rw [e1]
 simp only [List.append_assoc, List.singleton_append, show o + 1 + ys.length = o + (ys.length + 1) by omega]
theorem length_splice {α : Type} (l : List α) (o : Nat) (ys : List α) (h : o + ys.length ≤ l.length) : (splice l o ys).length = l.length := by
 simp [splice]; omega

/-- What a store of cells does to the world: one block is turned. -/
structure Turned (w w' : World) (b : Nat) (arr' : List Value) (e : TypeId) : Prop where
 os : w'.os = w.os
 tape : w'.tape = w.tape
 output : w'.output = w.output
 size : w'.heap.size = w.heap.size
 other : ∀ c, c ≠ b → w'.heap[c]? = w.heap[c]?
 at_ : ∃ arr : Array Value, arr.toList = arr' ∧ w'.heap[b]? = some (.cells arr e (0, 0))

theorem run_storeCells_ {b o : Nat} {e : TypeId} : ∀ (vs : List Value) (i : Nat) (w : World) (arr : Array Value), w.heap[b]? = some (.cells arr e (0, 0)) → (∀ u ∈ vs, u.oneCell' = true) → o + i + vs.length ≤ arr.size →
  ∃ w', (storeCells ⟨b, o, none⟩ vs i).run P w = .ok () w' ∧ Turned w w' b (splice arr.toList (o + i) vs) e
 | [], i, w, arr, hb, _, _ => ⟨w, by simp [storeCells], ⟨rfl, rfl, rfl, rfl, fun _ _ => rfl, ⟨arr, by rw [splice_nil], hb⟩⟩⟩
 | v :: vs, i, w, arr, hb, h1, hl => by
  simp only [List.length_cons] at hl
  have hc : w.cell? ⟨b, o + i, none⟩ = some arr[o + i] := by simp [World.cell?, hb, show o + i < arr.size by omega]
  have hf : w.frozen? ⟨b, o + i, none⟩ = false := by simp [World.frozen?, hb]
  have hs : (store ⟨b, o + i, none⟩ v).run P w = .ok () (w.setCell ⟨b, o + i, none⟩ v) := by
   rw [run_store P w _ v .plain (h1 v (List.mem_cons_self ..)), hc]
   simp [hf]
  obtain ⟨w', hr, ht⟩ := run_storeCells_ (b := b) (o := o) vs (i + 1) (w.setCell ⟨b, o + i, none⟩ v) (arr.setIfInBounds (o + i) v) (heap_setCell_at hb v) (fun u hu => h1 u (List.mem_cons_of_mem _ hu)) (by simp; omega)
  refine ⟨w', ?_, ⟨ht.os, ht.tape, ht.output, ht.size.trans (World.size_setCell ..), fun c hc' => (ht.other c hc').trans (heap_setCell_ne hc' v), ?_⟩⟩
  ·simp only [storeCells, Sem.run_bind, add_plain, hs, Result.andThen_ok]
   exact hr
  ·obtain ⟨arr', e1, e2⟩ := ht.at_
   refine ⟨arr', ?_, e2⟩
   rw [e1]
   simp only [Array.toList_setIfInBounds, show o + (i + 1) = o + i + 1 by omega]
   exact splice_cons _ _ _ _ (by simp; omega)
end

/-! ### 2. Loads -/
/-- The value of so many cells. -/
def mkv (agg : Bool) (n : Nat) (cs : List AC) : Option AV :=
 if cs.length = n then (if agg then some (.agg cs) else match cs with | [x] => some (.c x) | _ => none) else none

/-- What a load yields. -/
def ldv (P : Program) (R : List Res) (t : TypeId) : AV → Option AV
 | .c (.bp i off) => match R[i]?, tyIs P t with
  | some (.box cs), some (agg, n) => mkv agg n ((cs.drop off).take n)
  | _, _ => none
 | .c (.ep i j off tot) => match R[i]?, tyIs P t with
  | some (.row _ _ rows), some (agg, n) => if rows.length = tot then match rows[j]? with
   | some row => mkv agg n (((row.drop off).take n).map tco)
   | none => none else none
  | _, _ => none
 | .c (.rp ts) => match tyIs P t with
  | some (agg, n) => mkv agg n ((ts.take n).map tc)
  | none => none
 | _ => none

theorem mkv_len {agg : Bool} {n : Nat} {cs : List AC} {y : AV} (h : mkv agg n cs = some y) : cs.length = n ∧ (agg = false → n = 1) := by
 unfold mkv at h
 split at h
 ·rename_i h1
  refine ⟨h1, fun he => ?_⟩
  subst he
  simp only [Bool.false_eq_true, if_false] at h
  split at h
  ·simpa using h1.symm
  ·cases h
 ·cases h

theorem mkv_rel {W : Wit} {R : List Res} {w : World} {agg : Bool} {n : Nat} {cs : List AC} {y : AV} {vs : List Value} (h : mkv agg n cs = some y) (ha : AR W R w cs vs) : AVR W R w y (asV agg vs) := by
 unfold mkv at h
 split at h
 ·cases agg with
  | true =>
   obtain rfl := Option.some.inj h
   exact ⟨vs, rfl, ha⟩
  | false =>
   simp only [Bool.false_eq_true, if_false] at h
   split at h
   ·obtain rfl := Option.some.inj h
    have := ha.length
    match vs, this with
    | [v], _ => exact ha
   ·cases h
 ·cases h

theorem flatten_row {α : Type} {k : Nat} : ∀ {rows : List (List α)} (_ : ∀ r ∈ rows, r.length = k) {j : Nat} {row : List α}, rows[j]? = some row → (rows.flatten.drop (j * k)).take k = row
 | [], _, j, row, h => by simp at h
 | r :: rows, hk, 0, row, h => by
  obtain rfl : r = row := by simpa using h
  have := hk r (List.mem_cons_self ..)
  simp [← this]
 | r :: rows, hk, j + 1, row, h => by
  have h0 := hk r (List.mem_cons_self ..)
  have := flatten_row (fun x hx => hk x (List.mem_cons_of_mem _ hx)) (show rows[j]? = some row by simpa using h)
  rw [List.flatten_cons, show (j + 1) * k = r.length + j * k by rw [h0, Nat.add_mul]; omega, List.drop_append]
  rw [List.drop_of_length_le (by omega), List.nil_append, show r.length + j * k - r.length = j * k by omega]
  exact this

theorem flatten_len {α : Type} {k : Nat} : ∀ {rows : List (List α)}, (∀ r ∈ rows, r.length = k) → rows.flatten.length = rows.length * k
 | [], _ => by simp
 | r :: rows, hk => by
  rw [List.flatten_cons, List.length_append, flatten_len (fun x hx => hk x (List.mem_cons_of_mem _ hx)), hk r (List.mem_cons_self ..), List.length_cons, Nat.add_mul]
  omega

/-- Where a pointer's cells lie, and what they hold. -/
theorem ldv_cells {P : Program} {R : List Res} {w : World} {W : Wit} {t : TypeId} {x y : AV} {v : Value} (hs : Sep w W R) (hx : AVR W R w x v) (h : ldv P R t x = some y) :
  ∃ agg n b o vs, tyIs P t = some (agg, n) ∧ v = .pointer (some ⟨b, o, none⟩) ∧ vs.length = n ∧ (agg = false → n = 1) ∧ (∀ j u, vs[j]? = some u → w.cell? ⟨b, o + j, none⟩ = some u) ∧ AVR W R w y (asV agg vs) := by
 unfold ldv at h
 split at h
 ·rename_i i off
  split at h
  ·rename_i cs agg n hR ht
   cases hx with
   | bp h1 h2 h3 _ =>
    obtain ⟨b, e1, e2⟩ := h3 cs hR
    obtain ⟨b', arr, e, f1, f2, f3, f4⟩ := hs.res i _ hR
    rw [e1] at f1
    obtain rfl : b = b' := by cases f1; rfl
    obtain ⟨l1, l2⟩ := mkv_len h
    have hal := ((f4.drop off).take n)
    refine ⟨agg, n, b, off, (arr.toList.drop off).take n, ht, e2, by rw [← hal.length, l1], l2, fun j u hj => ?_, mkv_rel h hal⟩
    rw [List.getElem?_take] at hj
    split at hj
    ·rw [List.getElem?_drop] at hj
     simp [World.cell?, f3]
     simpa using hj
    ·cases hj
  ·cases h
 ·rename_i i j off tot
  split at h
  ·rename_i e0 k rows agg n hR ht
   split at h
   ·rename_i htot
    split at h
    ·rename_i row hrow
     cases hx with
     | ep h1 h2 h3 _ =>
      obtain ⟨b, nn, c, e1, e2⟩ := (h3 _ _ _ hR).2 htot
      obtain ⟨f1, f2, cells, G, f3, f4, f5, f6⟩ := hs.res i _ hR
      obtain ⟨l1, l2⟩ := mkv_len h
      obtain ⟨a, c', g1, g2, _, _, g3⟩ := ownsRow_reads f3
      have hpos : 0 < rows.length := by
       rcases Nat.lt_or_ge j rows.length with hj | hj
       ·omega
       ·rw [List.getElem?_eq_none hj] at hrow; cases hrow
      obtain ⟨b', g4, _, g5⟩ := g3 hpos
      subst g4
      rw [e1] at g1
      obtain rfl : b = b' := by cases g1; rfl
      have hal : AR W R w ((row.drop off).take n |>.map tco) ((((cells.drop (j * k)).take k).drop off).take n) := by
       have hh := ((f4.ar (W := W) (R := R)).drop (j * k)).take k
       rw [← List.map_drop, ← List.map_take, flatten_row f2 hrow] at hh
       have := (hh.drop off).take n
       rw [← List.map_drop, ← List.map_take] at this
       exact this
      refine ⟨agg, n, b, j * k + off, (((cells.drop (j * k)).take k).drop off).take n, ht, e2, by rw [← hal.length, l1], l2, fun q u hq => ?_, mkv_rel h hal⟩
      rw [List.getElem?_take] at hq
      split at hq
      ·rw [List.getElem?_drop, List.getElem?_take] at hq
       split at hq
       ·rw [List.getElem?_drop] at hq
        have := g5 _ u hq
        rwa [show j * k + off + q = 0 + (j * k + (off + q)) by omega]
       ·cases hq
      ·cases hq
    ·cases h
   ·cases h
  ·cases h
 ·rename_i ts
  split at h
  ·rename_i agg n ht
   cases hx with
   | rp b o inner h1 h2 h3 h4 _ =>
    obtain ⟨l1, l2⟩ := mkv_len h
    have hal : AR W R w ((ts.take n).map tc) (inner.take n) := (h3.take n).ar
    refine ⟨agg, n, b, o, inner.take n, ht, h1, by rw [← hal.length, l1], l2, fun j u hj => ?_, mkv_rel h hal⟩
    rw [List.getElem?_take] at hj
    split at hj
    ·exact h4 j u hj
    ·cases hj
  ·cases h
 ·cases h

section
variable {P : Program} {N : Nat} {s : Slots} {R : List Res} {K : Slots → List Res → Prop}

theorem L_load {o : Oper} {t : Nat} {x : Operand} {y : AV} (ho : o.op = .load t x) (hy : ldv P R t (ev s x) = some y) : Light P o s R y := fun N a w W hn => by
 obtain ⟨agg, n, b, oo, vs, h1, h2, h3, h4, h5, h6⟩ := ldv_cells hn.sep (hn.ev x) hy
 refine ⟨_, h6, fun w' hb => ?_⟩
 have h5' : ∀ j u, vs[j]? = some u → w'.cell? ⟨b, oo + j, none⟩ = some u := fun j u hj => by
  have := h5 j u hj
  rw [hb.cell (p := ⟨b, oo + j, none⟩) (World.block_lt_of_cell? w _ this)]
  exact this
 simp only [execOp, ho, Instr.loadAt, h2, Instr.sureAddr, Sem.run_bind, Sem.run_pure, Result.andThen_ok, run_loadVar_ h1 vs h3 h4 h5']

end
end Go.Proofs.YthnadkagchbhbaaGreat.E

namespace Go.Proofs.YthnadkagchbhbaaGreat.E
open Go Go.RowKit
set_option linter.unusedVariables false
set_option linter.unusedSimpArgs false

/-! ### 1. Addresses -/
/-- Where field f of a struct type begins. -/
def fofs (P : Program) (t f : Nat) : Option Nat :=
 match P.underlying t with
 | some (.struct fs) => match fs[f]? with
  | some fd => match tyIs P fd.type with
   | some (_, n + 1) => some fd.offset
   | _ => none
  | none => none
 | _ => none

theorem fofs_parts {P : Program} {t f k : Nat} (h : fofs P t f = some k) : ∃ fs fd b n, P.underlying t = some (.struct fs) ∧ fs[f]? = some fd ∧ tyIs P fd.type = some (b, n + 1) ∧ fd.offset = k := by
 unfold fofs at h
 split at h
 ·rename_i fs h1
  split at h
  ·rename_i fd h2
   split at h
   ·rename_i b n h3
    exact ⟨fs, fd, b, n, h1, h2, h3, Option.some.inj h⟩
   ·cases h
  ·cases h
 ·cases h

def fav (k : Nat) : AV → Option AV
 | .c (.bp i off) => some (.c (.bp i (off + k)))
 | .c (.ep i j off tot) => some (.c (.ep i j (off + k) tot))
 | .c (.rp ts) => some (.c (.rp (ts.drop k)))
 | _ => none

theorem run_fieldAt {P : Program} {t f k b o : Nat} (h : fofs P t f = some k) (w : World) : (Instr.fieldAt t (.pointer (some ⟨b, o, none⟩)) f).run P w = .ok (.pointer (some ⟨b, o + k, none⟩)) w := by
 obtain ⟨fs, fd, q, n, h1, h2, h3, rfl⟩ := fofs_parts h
 simp only [Instr.fieldAt, underlying, Sem.run_bind, run_program, Result.andThen_ok, h1, Sem.run_pure, h2, Instr.sureAddr, fieldPlace, run_sizeOf_ h3, add_plain]
 simp

theorem fav_rel {R : List Res} {w : World} {W : Wit} {k : Nat} {x y : AV} {v : Value} (hs : Sep w W R) (hx : AVR W R w x v) (h : fav k x = some y) (hp : ∃ b o, v = .pointer (some ⟨b, o, none⟩)) :
  ∃ b o, v = .pointer (some ⟨b, o, none⟩) ∧ AVR W R w y (.pointer (some ⟨b, o + k, none⟩)) := by
 unfold fav at h
 split at h
 ·rename_i i off
  obtain rfl := Option.some.inj h
  cases hx with
  | bp h1 h2 h3 _ =>
   obtain ⟨b, o, e⟩ := hp
   refine ⟨b, o, e, AR.bp rfl h2 (fun xs hr => ?_) .nil⟩
   obtain ⟨b', e1, e2⟩ := h3 xs hr
   rw [e] at e2
   obtain ⟨rfl, rfl⟩ : b = b' ∧ o = off := by cases e2; exact ⟨rfl, rfl⟩
   exact ⟨b, e1, rfl⟩
 ·rename_i i j off tot
  obtain rfl := Option.some.inj h
  cases hx with
  | ep h1 h2 h3 _ =>
   obtain ⟨b, o, e⟩ := hp
   refine ⟨b, o, e, AR.ep rfl h2 (fun e' k' rows hr => ?_) .nil⟩
   obtain ⟨h4, h5⟩ := h3 e' k' rows hr
   refine ⟨h4, fun ht => ?_⟩
   obtain ⟨b', n, c, e1, e2⟩ := h5 ht
   rw [e] at e2
   obtain ⟨rfl, rfl⟩ : b = b' ∧ o = j * k' + off := by cases e2; exact ⟨rfl, rfl⟩
   exact ⟨b, n, c, e1, by rw [Nat.add_assoc]⟩
 ·rename_i ts
  obtain rfl := Option.some.inj h
  cases hx with
  | rp b o inner h1 h2 h3 h4 _ =>
   refine ⟨b, o, h1, AR.rp b (o + k) (inner.drop k) rfl h2 (h3.drop k) (fun j u hj => ?_) .nil⟩
   rw [List.getElem?_drop] at hj
   have := h4 _ u hj
   rwa [← Nat.add_assoc] at this
 ·cases h

/-- A pointer that is not known to have a block behind it is known to be one all the same where its resource stands. -/
def ptrOk (R : List Res) : AV → Bool
 | .c (.bp i _) => match R[i]? with | some (.box _) => true | _ => false
 | .c (.ep i _ _ tot) => match R[i]? with | some (.row _ _ rows) => rows.length == tot | _ => false
 | .c (.rp _) => true
 | _ => false

theorem ptrOk_ptr {R : List Res} {w : World} {W : Wit} {x : AV} {v : Value} (hx : AVR W R w x v) (h : ptrOk R x = true) : ∃ b o, v = .pointer (some ⟨b, o, none⟩) := by
 unfold ptrOk at h
 split at h
 ·split at h
  ·rename_i cs hr
   cases hx with
   | bp h1 h2 h3 _ => obtain ⟨b, _, e⟩ := h3 _ hr; exact ⟨b, _, e⟩
  ·cases h
 ·split at h
  ·rename_i e k rows hr
   cases hx with
   | ep h1 h2 h3 _ => obtain ⟨b, _, _, _, e⟩ := (h3 _ _ _ hr).2 (by simpa using h); exact ⟨b, _, e⟩
  ·cases h
 ·cases hx with
  | rp b o inner h1 _ _ _ _ => exact ⟨b, o, h1⟩
 ·cases h

/-- The address of an element. -/
def iav (P : Program) (R : List Res) (t : TypeId) (x : AV) (j : Int) : Option AV :=
 if 0 ≤ j then
  match P.underlying t, x with
  | some (.slice e), .c (.ro rows) => match rows[j.toNat]?, tyIs P e with
   | some row, some (_, k) => if row.length = k then some (.c (.rp row)) else none
   | _, _ => none
  | some (.slice e), .c (.sl i off len tot) => match R[i]?, tyIs P e with
   | some (.row _ k rows), some (_, k') => if rows.length = tot ∧ k = k' ∧ j.toNat < len then some (.c (.ep i (off + j.toNat) 0 tot)) else none
   | _, _ => none
  | some (.array n e), x => match tyIs P e with
   | some (_, k) => if j.toNat < n ∧ ptrOk R x = true then fav (j.toNat * k) x else none
   | none => none
  | _, _ => none
 else none

theorem iav_run {P : Program} {R : List Res} {w : World} {W : Wit} {t : TypeId} {x y : AV} {v : Value} {j : Int} (hs : Sep w W R) (hx : AVR W R w x v) (h : iav P R t x j = some y) :
  ∃ u, (∀ w', (Instr.indexAt t v (.int .i64 j)).run P w' = .ok u w') ∧ AVR W R w y u := by
 unfold iav at h
 split at h
 ·rename_i hj
  split at h
  ·rename_i e rows hu
   split at h
   ·rename_i row bb k hrow hte
    split at h
    ·rename_i hk
     obtain rfl := Option.some.inj h
     cases hx with
     | ro hro _ =>
      cases hro with
      | @sl rows a c inner ts vs k' g1 g2 g3 g4 g5 g6 =>
       have hlt : j.toNat < rows.length := by
        rcases Nat.lt_or_ge j.toNat rows.length with h' | h'
        ·exact h'
        ·rw [List.getElem?_eq_none h'] at hrow; cases hrow
       obtain ⟨b, o, rfl, hb, hc⟩ := g4 (by omega)
       have hkk : k' = k := by
        rw [← hk]; exact (g3 row (List.mem_of_getElem? hrow)).symm
       subst hkk
       refine ⟨.pointer (some ⟨b, o + j.toNat * k', none⟩), ?_, AR.rp b (o + j.toNat * k') ((inner.drop (j.toNat * k')).take k') rfl hb ?_ (fun q u hq => ?_) .nil⟩
       ·intro w'
        simp only [Instr.indexAt, asIntOf, underlying, Sem.run_bind, run_program, Result.andThen_ok, hu, Sem.run_pure]
        simp only [hj, true_and, show j < (rows.length : Int) by omega, if_true, Sem.run_bind, run_sizeOf_ hte, Result.andThen_ok, add_plain]
        rfl
       ·have := ((g5.drop (j.toNat * k')).take k')
        rwa [flatten_row g3 hrow] at this
       ·rw [List.getElem?_take] at hq
        split at hq
        ·rw [List.getElem?_drop] at hq
         have := hc _ u hq
         rwa [← Nat.add_assoc] at this
        ·cases hq
    ·cases h
   ·cases h
  ·rename_i e i off len tot hu
   split at h
   ·rename_i e' k rows bb k' hR hte
    split at h
    ·rename_i hcond
     obtain ⟨hlen, rfl, hlt⟩ := hcond
     obtain rfl := Option.some.inj h
     cases hx with
     | sl h1 h2 h3 _ =>
      obtain ⟨a, n, c, e1, e0, e2⟩ := (h3 _ _ _ hR).2 hlen
      obtain ⟨f1, f2, cells, G, f3, f4, f5, f6⟩ := hs.res i _ hR
      rcases f3.2 with ⟨g4, g5⟩ | ⟨g, cap, cur, g4, _⟩
      ·rw [e1] at g4
       have : n = 0 := by cases g4; rfl
       omega
      ·rw [e1] at g4
       obtain ⟨rfl, rfl, rfl⟩ : a = some ⟨g, 0, none⟩ ∧ n = rows.length ∧ c = cap := by cases g4; exact ⟨rfl, rfl, rfl⟩
       rcases e2 with e2 | ⟨rfl, _⟩
       ·subst e2
        refine ⟨.pointer (some ⟨g, (off + j.toNat) * k, none⟩), ?_, AR.ep rfl h2 (fun e'' k'' rows'' hr'' => ?_) .nil⟩
        ·intro w'
         simp only [Instr.indexAt, asIntOf, underlying, Sem.run_bind, run_program, Result.andThen_ok, hu, Sem.run_pure, Option.map_some]
         simp only [hj, true_and, show j < (len : Int) by omega, if_true, Sem.run_bind, run_sizeOf_ hte, Result.andThen_ok, add_plain, Nat.add_mul]
         rfl
        ·rw [hR] at hr''
         obtain ⟨rfl, rfl, rfl⟩ : e' = e'' ∧ k = k'' ∧ rows = rows'' := by cases hr''; exact ⟨rfl, rfl, rfl⟩
         exact ⟨by omega, fun _ => ⟨g, _, _, e1, by simp⟩⟩
       ·omega
    ·cases h
   ·cases h
  ·rename_i x n e hu
   split at h
   ·rename_i bb k hte
    split at h
    ·rename_i hcond
     obtain ⟨hlt, hp⟩ := hcond
     obtain ⟨b, o, e1, e2⟩ := fav_rel hs hx h (ptrOk_ptr hx hp)
     subst e1
     refine ⟨_, fun w' => ?_, e2⟩
     simp only [Instr.indexAt, asIntOf, underlying, Sem.run_bind, run_program, Result.andThen_ok, hu, Sem.run_pure, Instr.sureAddr]
     simp only [hj, true_and, show j < (n : Int) by omega, if_true, Sem.run_bind, run_sizeOf_ hte, Result.andThen_ok, add_plain]
     rfl
    ·cases h
   ·cases h
  ·cases h
 ·cases h

section
variable {P : Program} {N : Nat} {s : Slots} {R : List Res} {K : Slots → List Res → Prop}

theorem L_field {o : Oper} {t f k : Nat} {x : Operand} {y : AV} (ho : o.op = .fieldAddr t x f) (hk : fofs P t f = some k) (hp : ptrOk R (ev s x) = true) (hy : fav k (ev s x) = some y) : Pure P o s R y := fun N a w W hn => by
 obtain ⟨b, oo, e1, e2⟩ := fav_rel hn.sep (hn.ev x) hy (ptrOk_ptr (hn.ev x) hp)
 refine ⟨_, e2, fun w' => ?_⟩
 simp only [execOp, ho, e1, Sem.run_bind, run_fieldAt hk, Result.andThen_ok]
 rfl

theorem L_index {o : Oper} {t : Nat} {x ix : Operand} {j : Int} {y : AV} (ho : o.op = .indexAddr t x ix) (hj : ev s ix = .c (.sc (.int .i64 j))) (hy : iav P R t (ev s x) j = some y) : Pure P o s R y := fun N a w W hn => by
 obtain ⟨u, e1, e2⟩ := iav_run hn.sep (hn.ev x) hy
 refine ⟨u, e2, fun w' => ?_⟩
 simp only [execOp, ho, hn.sc hj, Sem.run_bind, e1, Result.andThen_ok]
 rfl

/-- How long is it? -/
def lav : AV → Option Nat
 | .c (.ro rows) => some rows.length
 | .c (.sl i _ len _) => some len
 | .c (.sc (.slice none 0 0)) => some 0
 | _ => none

def slOk (R : List Res) : AV → Bool
 | .c (.sl i off len tot) => match R[i]? with | some (.row _ _ rows) => rows.length == tot | _ => false
 | _ => true

/-- What is known of a slice's length. -/
theorem lav_val {w : World} {W : Wit} {x : AV} {v : Value} {n : Nat} (hs : Sep w W R) (hx : AVR W R w x v) (h : lav x = some n) (hok : slOk R x = true) :
  ∃ a c, v = .slice a n c := by
 unfold lav at h
 split at h
 ·obtain rfl := Option.some.inj h
  cases hx with
  | ro hro _ => cases hro with | sl _ _ _ _ _ _ _ => exact ⟨_, _, rfl⟩
 ·rename_i i off len tot
  obtain rfl := Option.some.inj h
  simp only [slOk] at hok
  split at hok
  ·rename_i e k rows hr
   cases hx with
   | sl h1 h2 h3 _ =>
    obtain ⟨a, n, c, e1, e0, e2⟩ := (h3 _ _ _ hr).2 (by simpa using hok)
    rcases e2 with e2 | ⟨rfl, _, a', c', e2, _⟩
    ·exact ⟨_, _, e2⟩
    ·exact ⟨_, _, e2⟩
  ·cases hok
 ·obtain rfl := Option.some.inj h
  have := AR.sc_inv hx
  exact ⟨none, 0, this⟩
 ·cases h

def isSlice (P : Program) (t : TypeId) : Option TypeId := match P.underlying t with | some (.slice e) => some e | _ => none

theorem isSlice_of {t e : TypeId} (h : isSlice P t = some e) : P.underlying t = some (.slice e) := by
 unfold isSlice at h
 split at h
 ·rename_i e' h1; rw [h1, Option.some.inj h]
 ·cases h

theorem L_len {o : Oper} {t e n : Nat} {x : Operand} (ho : o.op = .call { callee := .builtin .len, args := #[x], argTypes := #[t] }) (ht : isSlice P t = some e) (hx : lav (ev s x) = some n) (hok : slOk R (ev s x) = true) : Pure P o s R (.c (.sc (.int .i64 n))) := fun N a w W hn => by
 obtain ⟨b, c, e1⟩ := lav_val hn.sep (hn.ev x) hx hok
 refine ⟨.int .i64 n, AR.sc1 rfl, fun w' => ?_⟩
 have hu := isSlice_of ht
 simp [execOp, ho, resolve, invoke, builtin, Builtin.len_, e1, underlying, hu, goInt]

/-! ### 2. A part of several results; a closure -/
def xav (x : AV) (i : Nat) : Option AV := match x with
 | .tup xs => match xs[i]? with
  | some (true, cs) => some (.agg cs)
  | some (false, [c]) => some (.c c)
  | _ => none
 | _ => none

theorem L_extract {o : Oper} {i : Nat} {x : Operand} {y : AV} (ho : o.op = .extract x i) (hy : xav (ev s x) i = some y) : Pure P o s R y := fun N a w W hn => by
  have hx := hn.ev x
  unfold xav at hy
  split at hy
  ·rename_i xs he
   rw [he] at hx
   obtain ⟨us, e1, e2, e3⟩ := hx
   split at hy
   ·rename_i cs hi
    obtain rfl := Option.some.inj hy
    have hl : i < us.length := by
     rcases Nat.lt_or_ge i us.length with h' | h'
     ·exact h'
     ·rw [List.getElem?_eq_none (by omega)] at hi; cases hi
    obtain ⟨vs, f1, f2⟩ := e3 i _ _ hi (List.getElem?_eq_getElem hl)
    simp only [if_true] at f1
    exact ⟨us[i], ⟨vs, f1, f2⟩, fun w' => by simp [execOp, ho, e1, Instr.extract, hl]⟩
   ·rename_i c hi
    obtain rfl := Option.some.inj hy
    have hl : i < us.length := by
     rcases Nat.lt_or_ge i us.length with h' | h'
     ·exact h'
     ·rw [List.getElem?_eq_none (by omega)] at hi; cases hi
    obtain ⟨vs, f1, f2⟩ := e3 i _ _ hi (List.getElem?_eq_getElem hl)
    simp only [Bool.false_eq_true, if_false] at f1
    subst f1
    exact ⟨us[i], f2, fun w' => by simp [execOp, ho, e1, Instr.extract, hl]⟩
   ·cases hy
  ·cases hy

end
end Go.Proofs.YthnadkagchbhbaaGreat.E

namespace Go.Proofs.YthnadkagchbhbaaGreat.E
open Go Go.RowKit
set_option linter.unusedVariables false
set_option linter.unusedSimpArgs false

/-! ### 1. Stores -/
def cellsOf : AV → Option (List AC)
 | .c x => some [x]
 | .agg xs => some xs
 | _ => none

theorem cells_one {v : Value} (h : v.oneCell' = true) : v.cells.toList = [v] := by
 cases v <;> first | rfl | (simp [Value.oneCell'] at h)

theorem cells_rel {W : Wit} {R : List Res} {w : World} {y : AV} {v : Value} {ys : List AC} (hy : AVR W R w y v) (h : cellsOf y = some ys) : AR W R w ys v.cells.toList := by
 unfold cellsOf at h
 split at h
 ·obtain rfl := Option.some.inj h
  have h1 : AR W R w [_] [v] := hy
  rw [cells_one (h1.one v (List.mem_cons_self ..))]
  exact h1
 ·obtain rfl := Option.some.inj h
  obtain ⟨vs, rfl, h1⟩ := hy
  exact h1
 ·cases h

theorem getElem?_splice {α : Type} (l : List α) (o : Nat) (ys : List α) (h : o ≤ l.length) (q : Nat) : (splice l o ys)[q]? = if q < o then l[q]? else if q < o + ys.length then ys[q - o]? else l[q]? := by
 unfold splice
 rw [List.append_assoc, List.getElem?_append]
 simp only [List.length_take, Nat.min_eq_left h]
 split
 ·rename_i h1; rw [List.getElem?_take, if_pos h1]
 ·rename_i h1
  rw [List.getElem?_append]
  split
  ·rename_i h2; rw [if_pos (by omega)]
  ·rename_i h2; rw [if_neg (by omega), List.getElem?_drop]; congr 1; omega

theorem take_splice {α : Type} (l : List α) (o m : Nat) (ys : List α) (h : o + ys.length ≤ m) (hm : m ≤ l.length) : (splice l o ys).take m = splice (l.take m) o ys := by
 apply List.ext_getElem?
 intro q
 rw [List.getElem?_take, getElem?_splice _ _ _ (by omega), getElem?_splice _ _ _ (by rw [List.length_take]; omega)]
 simp only [List.getElem?_take]
 by_cases h1 : q < m
 ·simp [h1]
 ·simp only [h1, if_false, show ¬ q < o by omega, show ¬ q < o + ys.length by omega]

theorem flatten_set {α : Type} {k : Nat} : ∀ {rows : List (List α)} (_ : ∀ r ∈ rows, r.length = k) {j : Nat} {row : List α} (_ : rows[j]? = some row) (off : Nat) (ts : List α), off + ts.length ≤ k → (rows.set j (splice row off ts)).flatten = splice rows.flatten (j * k + off) ts
 | [], _, j, row, h, _, _, _ => by simp at h
 | r :: rows, hk, 0, row, h, off, ts, hl => by
  obtain rfl : r = row := by simpa using h
  have h0 := hk r (List.mem_cons_self ..)
  simp only [List.set_cons_zero, List.flatten_cons, Nat.zero_mul, Nat.zero_add]
  simp only [splice, List.append_assoc]
  rw [List.take_append_of_le_length (by omega), List.drop_append_of_le_length (by omega)]
 | r :: rows, hk, j + 1, row, h, off, ts, hl => by
  have h0 := hk r (List.mem_cons_self ..)
  have ih := flatten_set (fun x hx => hk x (List.mem_cons_of_mem _ hx)) (show rows[j]? = some row by simpa using h) off ts hl
  simp only [List.set_cons_succ, List.flatten_cons, ih]
  apply List.ext_getElem?
  intro q
  have hj : j < rows.length := by
   rcases Nat.lt_or_ge j rows.length with h' | h'
   ·exact h'
   ·simp [List.getElem?_eq_none h'] at h
  have hfl := flatten_len (fun x hx => hk x (List.mem_cons_of_mem _ hx))
  have hjk : j * k + k ≤ rows.length * k := by rw [← Nat.succ_mul]; exact Nat.mul_le_mul_right k hj
  have e1 : (j + 1) * k = k + j * k := by rw [Nat.add_mul]; omega
  rw [List.getElem?_append, getElem?_splice _ _ _ (by omega), getElem?_splice _ _ _ (by rw [List.length_append]; omega), e1, h0, List.getElem?_append, h0]
  by_cases h1 : q < k
  ·simp [h1, show q < k + j * k + off by omega]
  ·simp only [h1, if_false]
   by_cases h2 : q - k < j * k + off
   ·simp [h2, show q < k + j * k + off by omega]
   ·simp only [h2, if_false, show ¬ q < k + j * k + off by omega]
    by_cases h3 : q - k < j * k + off + ts.length
    ·simp only [h3, if_true, show q < k + j * k + off + ts.length by omega]
     congr 1; omega
    ·simp [h3, show ¬ q < k + j * k + off + ts.length by omega]

def isSc : T → Bool
 | .sc _ => true
 | .sl _ => false

theorem splice_zero_cons {α : Type} (a y : α) (l ys : List α) : splice (a :: l) 0 (y :: ys) = y :: splice l 0 ys := by simp [splice]
theorem splice_succ {α : Type} (a : α) (l ys : List α) (p : Nat) : splice (a :: l) (p + 1) ys = a :: splice l p ys := by
 simp [splice, show p + 1 + ys.length = (p + ys.length) + 1 by omega]

/-- Scalars put where scalars stood. -/
theorem Ow.splice {w : World} {ts : List T} {vs : List Value} {F : Nat → Prop} (h : Ow w ts vs F) : ∀ (p : Nat) (xs : List Value), (∀ x ∈ xs, x.oneCell' = true) → p + xs.length ≤ ts.length → ((ts.drop p).take xs.length).all isSc = true →
  Ow w (E.splice ts p (xs.map T.sc)) (E.splice vs p xs) F := by
 induction h with
 | nil =>
  intro p xs _ hl _
  obtain rfl : p = 0 := by simp at hl; omega
  obtain rfl : xs = [] := by simpa using hl
  exact .nil
 | sc h1 h2 ih =>
  intro p xs hx hl ha
  cases p with
  | zero =>
   cases xs with
   | nil => simpa [splice_nil] using Ow.sc h1 h2
   | cons x xs =>
    rw [List.map_cons, splice_zero_cons, splice_zero_cons]
    exact .sc (hx x (List.mem_cons_self ..)) (ih 0 xs (fun y hy => hx y (List.mem_cons_of_mem _ hy)) (by simpa using hl) (by simpa [isSc] using ha))
  | succ p =>
   rw [splice_succ, splice_succ]
   exact .sc h1 (ih p xs hx (by simp at hl; omega) (by simpa using ha))
 | sl e k h1 h2 h3 h4 h5 h6 h7 _ ih2 =>
  intro p xs hx hl ha
  cases p with
  | zero =>
   cases xs with
   | nil => simpa [splice_nil] using Ow.sl e k h1 h2 h3 h4 h5 h6 h7
   | cons x xs => simp [isSc] at ha
  | succ p =>
   rw [splice_succ, splice_succ]
   exact .sl e k h1 h2 h3 h4 (ih2 p xs hx (by simp at hl; omega) (by simpa using ha)) h6 h7

def act : AC → Option Value
 | .sc v => some v
 | _ => none

/-- What a store makes of the resources. -/
def stv (P : Program) (R : List Res) (t : TypeId) (x : AV) (ys : List AC) : Option (List Res) :=
 match x, tyIs P t with
 | .c (.bp i off), some (_, n) => match R[i]? with
  | some (.box cs) => if ys.length = n ∧ off + n ≤ cs.length then some (R.set i (.box (splice cs off ys))) else none
  | _ => none
 | .c (.ep i j off tot), some (_, n) => match R[i]?, ys.mapM act with
  | some (.row e k rows), some xs => match rows[j]? with
   | some row => if rows.length = tot ∧ xs.length = n ∧ off + n ≤ k ∧ ((row.drop off).take n).all isSc = true then some (R.set i (.row e k (rows.set j (splice row off (xs.map T.sc))))) else none
   | none => none
  | _, _ => none
 | _, _ => none

theorem mapM_act {W : Wit} {R : List Res} {w : World} : ∀ {ys : List AC} {xs vs : List Value}, ys.mapM act = some xs → AR W R w ys vs → vs = xs ∧ ∀ x ∈ xs, x.oneCell' = true
 | [], xs, vs, h, ha => by
  obtain rfl : [] = xs := by simpa using h
  cases ha
  exact ⟨rfl, by simp⟩
 | y :: ys, xs, vs, h, ha => by
  cases y with
  | sc v =>
   simp only [List.mapM_cons, act, Option.pure_def, Option.bind_eq_bind, Option.bind_some] at h
   cases hm : ys.mapM act with
   | none => rw [hm] at h; cases h
   | some zs =>
    rw [hm] at h
    obtain rfl : v :: zs = xs := by simpa using h
    cases ha with
    | sc h1 h2 =>
     obtain ⟨rfl, h4⟩ := mapM_act hm h2
     exact ⟨rfl, fun x hx => by rcases List.mem_cons.1 hx with rfl | hx; exact h1; exact h4 x hx⟩
  | _ => simp [act] at h

theorem Sep.turn {w w' : World} {W : Wit} {R : List Res} {i b : Nat} {r r' : Res} {arr' : List Value} {e : TypeId} (hs : Sep w W R) (hr : R[i]? = some r) (hb : W.fs i b) (ht : Turned w w' b arr' e)
  (hg : ∀ v, Goes v v (some r) (some r')) (hn : r' ≠ .gone) (hres : Trans w W R w' W (R.set i r') → ResRel w' W (R.set i r') (W.hs i) (W.fs i) r') : Trans w W R w' W (R.set i r') ∧ Sep w' W (R.set i r') := by
 have hi : i < R.length := by
  rcases Nat.lt_or_ge i R.length with h' | h'
  ·exact h'
  ·rw [List.getElem?_eq_none h'] at hr; cases hr
 have tr : Trans w W R w' W (R.set i r') := by
  refine ⟨ht.os, ht.tape, ht.output, Nat.le_of_eq ht.size.symm, fun c hc => ht.other c (fun e => hc.2 i (e ▸ hb)), fun j c hj => .inl ⟨j, hj⟩, fun j => ?_⟩
  by_cases e : i = j
  ·subst e
   rw [List.getElem?_set_self hi, hr]
   exact hg _
  ·rw [List.getElem?_set_ne e]
   exact Goes.refl _ _
 refine ⟨tr, hs.step tr i (fun j h1 _ => by simpa using h1) (fun j h1 _ => List.getElem?_set_ne (Ne.symm h1)) (fun _ _ => rfl) (fun _ _ _ => Iff.rfl) (fun j h1 c hc => ht.other c (fun e => h1 (hs.apart j i b (e ▸ hc) hb))) (fun q hq => ?_) (fun c hc => .inl hc) (fun c hc => by rw [ht.size]; exact hs.lt i c hc) (fun h => absurd hi (by simp at h; omega)) (fun h => ?_)⟩
 ·rw [List.getElem?_set_self hi] at hq
  obtain rfl := Option.some.inj hq
  exact hres tr
 ·rw [List.getElem?_set_self hi] at h
  exact absurd (Option.some.inj h) hn

theorem AR.splice {W : Wit} {R : List Res} {w : World} {cs ys : List AC} {vs us : List Value} (h : AR W R w cs vs) (hy : AR W R w ys us) (o : Nat) : AR W R w (E.splice cs o ys) (E.splice vs o us) := by
 unfold E.splice
 rw [hy.length]
 exact ((h.take o).append hy).append (h.drop _)

section
variable {P : Program} {N : Nat} {s : Slots} {R : List Res} {K : Slots → List Res → Prop}

theorem stv_run {w : World} {W : Wit} {t : TypeId} {x : AV} {v u : Value} {y : AV} {ys : List AC} {R' : List Res} (hs : Sep w W R) (hx : AVR W R w x v) (hy : AVR W R w y u) (hys : cellsOf y = some ys) (h : stv P R t x ys = some R') :
  ∃ w', (Instr.storeAt t v u).run P w = .ok () w' ∧ Trans w W R w' W R' ∧ Sep w' W R' := by
 have hc := cells_rel hy hys
 have hcl := hc.length
 unfold stv at h
 split at h
 ·rename_i i off bb n ht
  split at h
  ·rename_i cs hR
   split at h
   ·rename_i hl
    obtain ⟨hl1, hl2⟩ := hl
    obtain rfl := Option.some.inj h
    cases hx with
    | bp h1 h2 h3 _ =>
     obtain ⟨b, e1, e2⟩ := h3 cs hR
     obtain ⟨b', arr, e, f1, f2, f3, f4⟩ := hs.res i _ hR
     rw [e1] at f1
     obtain rfl : b = b' := by cases f1; rfl
     subst e2
     obtain ⟨w', g1, g2⟩ := run_storeCells_ (P := P) (b := b) (o := off) u.cells.toList 0 w arr f3 hc.one (by have := f4.length; simp only [Array.length_toList] at this hcl ⊢; omega)
     obtain ⟨k1, k2⟩ := hs.turn (r' := .box (E.splice cs off ys)) hR ((f2 b).2 rfl) g2 (fun _ => rfl) (by simp) (fun tr => by
      obtain ⟨arr', m1, m2⟩ := g2.at_
      exact ⟨b, arr', e, e1, f2, m2, by rw [m1]; exact (f4.splice hc off).next tr⟩)
     refine ⟨w', ?_, k1, k2⟩
     have hsz : u.cells.size = n := by rw [← Array.length_toList, ← hcl, hl1]
     simp only [Instr.storeAt, Instr.sureAddr, Sem.run_bind, Sem.run_pure, Result.andThen_ok, storeVar, run_sizeOf_ ht, hsz]
     simpa using g1
   ·cases h
  ·cases h
 ·rename_i i j off tot bb n ht
  split at h
  ·rename_i e k rows xs hR hm
   split at h
   ·rename_i row hrow
    split at h
    ·rename_i hcond
     obtain ⟨c1, c2, c3, c4⟩ := hcond
     obtain rfl := Option.some.inj h
     obtain ⟨m1, m2⟩ := mapM_act hm hc
     cases hx with
     | ep h1 h2 h3 _ =>
      obtain ⟨b, nn, c, e1, e2⟩ := (h3 _ _ _ hR).2 c1
      subst e2
      obtain ⟨f1, f2, cells, G, f3, f4, f5, f6⟩ := hs.res i _ hR
      have hjl : j < rows.length := by
       rcases Nat.lt_or_ge j rows.length with h' | h'
       ·exact h'
       ·rw [List.getElem?_eq_none h'] at hrow; cases hrow
      have hjk : j * k + k ≤ rows.length * k := by rw [← Nat.succ_mul]; exact Nat.mul_le_mul_right k hjl
      have hfl := flatten_len f2
      rcases f3.2 with ⟨g4, g5⟩ | ⟨g, cap, cur, g4, _, g5, g6, g7, g8, g9⟩
      ·rw [e1] at g4; cases g4
      ·rw [e1] at g4
       obtain ⟨rfl, rfl, rfl⟩ : b = g ∧ nn = rows.length ∧ c = cap := by cases g4; exact ⟨rfl, rfl, rfl⟩
       have hcap : rows.length * k ≤ cur.size := by rw [g8]; exact Nat.mul_le_mul_right k g6
       have hxl : u.cells.toList.length = n := by rw [m1, c2]
       obtain ⟨w', p1, p2⟩ := run_storeCells_ (P := P) (b := b) (o := j * k + off) u.cells.toList 0 w cur g5 hc.one (by omega)
       have hob : (W.hs i).ownBlock = some b := by rw [e1]; rfl
       obtain ⟨k1, k2⟩ := hs.turn (r' := .row e k (rows.set j (E.splice row off (xs.map T.sc)))) hR ((f6 b).2 (.inl hob)) p2 (fun _ => ⟨rfl, rfl, by simp, fun _ => rfl⟩) (by simp) (fun tr => by
        obtain ⟨arr', q1, q2⟩ := p2.at_
        have hrk : ∀ r ∈ rows.set j (E.splice row off (xs.map T.sc)), r.length = k := by
         intro r hr
         rcases List.mem_or_eq_of_mem_set hr with hr | rfl
         ·exact f2 r hr
         ·rw [length_splice _ _ _ (by rw [f2 row (List.mem_of_getElem? hrow)]; simp; omega)]; exact f2 row (List.mem_of_getElem? hrow)
        have hflat := flatten_set f2 hrow off (xs.map T.sc) (by simp; omega)
        have hle : j * k + off + u.cells.toList.length ≤ rows.length * k := by omega
        have hcells : arr'.toList.take (rows.length * k) = E.splice cells (j * k + off) xs := by
         rw [q1, Nat.add_zero, take_splice _ _ _ _ hle (by simpa using hcap), g9, m1]
        have hclen : cells.length = rows.length * k := f3.1
        have hz2 : u.cells.size = n := by rw [← hxl, Array.length_toList]
        have hz1 : j * k + off + 0 + u.cells.toList.length ≤ cur.toList.length := by simp only [Array.length_toList]; omega
        have hasz : arr'.size = c * k := by rw [← Array.length_toList, q1, length_splice _ _ _ hz1, Array.length_toList, g8]
        refine ⟨f1, hrk, E.splice cells (j * k + off) xs, G, ⟨?_, .inr ⟨b, c, arr', ?_, Nat.zero_le _, q2, ?_, g7, hasz, ?_⟩⟩, ?_, f5, f6⟩
        ·rw [length_splice _ _ _ (by omega), List.length_set, hclen]
        ·rw [e1, List.length_set]
        ·rw [List.length_set]; exact g6
        ·rw [List.length_set]; exact hcells
        ·rw [hflat]
         refine (f4.splice (j * k + off) xs m2 (by rw [f4.length]; omega) ?_).mono (fun z hz => p2.other z (fun ez => f5 b hob (ez ▸ hz)))
         have : ((rows.flatten.drop (j * k)).take k).drop off |>.take n |>.all isSc := by rw [flatten_row f2 hrow]; exact c4
         rw [List.drop_take, List.take_take, List.drop_drop] at this
         rw [c2]
         rwa [Nat.min_eq_left (by omega)] at this)
       refine ⟨w', ?_, k1, k2⟩
       have hsz : u.cells.size = n := by rw [← Array.length_toList, hxl]
       simp only [Instr.storeAt, Instr.sureAddr, Sem.run_bind, Sem.run_pure, Result.andThen_ok, storeVar, run_sizeOf_ ht, hsz]
       simpa using p1
    ·cases h
   ·cases h
  ·cases h
 ·cases h

theorem EOp_store {o : Oper} {t : Nat} {x y : Operand} {ys : List AC} {R' : List Res} (ho : o.op = .store t x y) (hd : o.dst = none) (hys : cellsOf (ev s y) = some ys) (hR : stv P R t (ev s x) ys = some R') (h : K s R') : EOp P N o s R K := by
 intro Q a w W hn
 obtain ⟨w', h1, h2, h3⟩ := stv_run hn.sep (hn.ev x) (hn.ev y) hys hR
 unfold Oper.wp
 have hr : (execOp a.eval o).run P w = .ok .skip w' := by
  simp only [execOp, ho, Sem.run_bind, h1, Result.andThen_ok, Sem.run_pure]
 rw [hr, Oper.upon_skip, hd]
 exact ⟨s, R', W, h, hn.next h2 h3, h2⟩

end
end Go.Proofs.YthnadkagchbhbaaGreat.E

namespace Go.Proofs.YthnadkagchbhbaaGreat.E
open Go Go.RowKit
set_option linter.unusedVariables false
set_option linter.unusedSimpArgs false

/-! ### 1. New resources -/
def Wit.new (W : Wit) (n : Nat) (v : Value) (F : Nat → Prop) : Wit :=
 ⟨fun j => if j = n then v else W.hs j, fun j => if j = n then F else W.fs j⟩

/-- A new resource at the end, over blocks that are new. -/
theorem Sep.more {w w' : World} {W : Wit} {R : List Res} {r : Res} {v : Value} {F : Nat → Prop} (hs : Sep w W R) (ho : w'.os = w.os) (htp : w'.tape = w.tape) (hout : w'.output = w.output) (hsz : w.heap.size ≤ w'.heap.size)
  (hold : ∀ b, b < w.heap.size → w'.heap[b]? = w.heap[b]?) (hF : ∀ b, F b → w.heap.size ≤ b ∧ b < w'.heap.size) (hn : r = .gone → ∀ b, ¬ F b)
  (hres : Trans w W R w' (W.new R.length v F) (R ++ [r]) → ResRel w' (W.new R.length v F) (R ++ [r]) v F r) :
  Trans w W R w' (W.new R.length v F) (R ++ [r]) ∧ Sep w' (W.new R.length v F) (R ++ [r]) := by
 have tr : Trans w W R w' (W.new R.length v F) (R ++ [r]) := by
  refine ⟨ho, htp, hout, hsz, fun b hb => hold b hb.1, fun j b hj => ?_, fun j => ?_⟩
  ·unfold Wit.new at hj
   simp only at hj
   split at hj
   ·exact .inr (hF b hj).1
   ·exact .inl ⟨j, hj⟩
  ·rcases Nat.lt_or_ge j R.length with h | h
   ·rw [List.getElem?_append_left h]
    have : (W.new R.length v F).hs j = W.hs j := by simp [Wit.new, Nat.ne_of_lt h]
    rw [this]; exact Goes.refl _ _
   ·rw [List.getElem?_eq_none h]; exact trivial
 refine ⟨tr, hs.step tr R.length (fun j h1 h2 => by simp; omega) (fun j _ h2 => List.getElem?_append_left h2) (fun j h1 => by simp [Wit.new, h1]) (fun j h1 b => by simp [Wit.new, h1]) (fun j _ b hb => hold b (hs.lt j b hb)) (fun q hq => ?_) (fun b hb => ?_) (fun b hb => ?_) (fun h => by simp at h; omega) (fun h => ?_)⟩
 ·obtain rfl : r = q := by simpa using hq
  have := hres tr
  simpa [Wit.new] using this
 ·exact .inr (hF b (by simpa [Wit.new] using hb)).1
 ·exact (hF b (by simpa [Wit.new] using hb)).2
 ·have : r = .gone := by simpa using h
  intro b
  simpa [Wit.new] using hn this b

theorem heap_alloc_self (w : World) (o : Obj) : (w.alloc o).heap[w.heap.size]? = some o := by show (w.heap.push o)[w.heap.size]? = some o; simp
theorem heap_alloc_lt (w : World) (o : Obj) (b : Nat) (h : b < w.heap.size) : (w.alloc o).heap[b]? = w.heap[b]? := Below.heap_alloc w o b h

/-- A new variable. -/
theorem Sep.box {w : World} {W : Wit} {R : List Res} (hs : Sep w W R) {cs : List AC} {arr : Array Value} {e : TypeId} (hc : AR W R w cs arr.toList) :
  ∃ W', Trans w W R (w.alloc (.cells arr e)) W' (R ++ [.box cs]) ∧ Sep (w.alloc (.cells arr e)) W' (R ++ [.box cs]) ∧ W'.hs R.length = .pointer (some ⟨w.heap.size, 0, none⟩) := by
 refine ⟨W.new R.length (.pointer (some ⟨w.heap.size, 0, none⟩)) (fun b => b = w.heap.size), ?_⟩
 obtain ⟨h1, h2⟩ := hs.more (w' := w.alloc (.cells arr e)) (r := .box cs) (v := .pointer (some ⟨w.heap.size, 0, none⟩)) (F := fun b => b = w.heap.size) rfl rfl rfl (by simp) (heap_alloc_lt w _)
  (fun b hb => by subst hb; simp) (fun h => by cases h) (fun tr => ⟨w.heap.size, arr, e, rfl, fun _ => Iff.rfl, heap_alloc_self .., hc.next tr⟩)
 exact ⟨h1, h2, by simp [Wit.new]⟩

/-- The cells of a type's zero value. -/
def zav (P : Program) (t : TypeId) : Option (List AC) :=
 match (P.info? t).bind (·.zero) with
 | some v => if v.cells.toList.all (·.oneCell') then some (v.cells.toList.map .sc) else none
 | none => none

theorem AR.scs {W : Wit} {R : List Res} {w : World} : ∀ {vs : List Value}, vs.all (·.oneCell') = true → AR W R w (vs.map .sc) vs
 | [], _ => .nil
 | v :: vs, h => by
  simp only [List.all_cons, Bool.and_eq_true] at h
  exact .sc h.1 (AR.scs h.2)

theorem zav_run {P : Program} {t : TypeId} {zs : List AC} (h : zav P t = some zs) (w : World) : ∃ v, (zeroValue t).run P w = .ok v w ∧ ∀ (W : Wit) (R : List Res), AR W R w zs v.cells.toList := by
 unfold zav at h
 split at h
 ·rename_i v hv
  split at h
  ·rename_i ha
   obtain rfl := Option.some.inj h
   cases hi : P.info? t with
   | none => rw [hi] at hv; cases hv
   | some i =>
    rw [hi] at hv
    refine ⟨v, ?_, fun W R => AR.scs ha⟩
    simp only [Option.bind_some] at hv
    simp [zeroValue, typeInfo, hi, hv]
  ·cases h
 ·cases h

section
variable {P : Program} {N : Nat} {s : Slots} {R : List Res} {K : Slots → List Res → Prop}

theorem bp_new {W' : Wit} {R : List Res} {w' : World} {cs : List AC} {b : Nat} (h : W'.hs R.length = .pointer (some ⟨b, 0, none⟩)) : AVR W' (R ++ [.box cs]) w' (.c (.bp R.length 0)) (.pointer (some ⟨b, 0, none⟩)) :=
 AR.bp rfl (by simp) (fun _ _ => ⟨b, h, rfl⟩) .nil

theorem EOp_alloc {o : Oper} {d t : Nat} {zs : List AC} (ho : o.op = .alloc t) (hd : o.dst = some d) (hN : d < N) (hz : zav P t = some zs) (h : K ((d, .c (.bp R.length 0)) :: s) (R ++ [.box zs])) : EOp P N o s R K := by
 intro Q a w W hn
 obtain ⟨v, h1, h2⟩ := zav_run hz w
 obtain ⟨W', k1, k2, k3⟩ := hn.sep.box (e := t) (arr := v.cells) (h2 W R)
 unfold Oper.wp
 have hr : (execOp a.eval o).run P w = .ok (.value (.pointer (some ⟨w.heap.size, 0, none⟩))) (w.alloc (.cells v.cells t)) := by
  simp only [execOp, ho, Instr.alloc, Sem.run_bind, h1, Result.andThen_ok]
  rfl
 rw [hr, Oper.upon_value, hd]
 exact ⟨_, _, W', h, (hn.next k1 k2).put hN (bp_new k3), k1⟩

theorem EOp_box {o : Oper} {d t : Nat} {x : Operand} {ys : List AC} (ho : o.op = .box t x) (hd : o.dst = some d) (hN : d < N) (hy : cellsOf (ev s x) = some ys) (h : K ((d, .c (.bp R.length 0)) :: s) (R ++ [.box ys])) : EOp P N o s R K := by
 intro Q a w W hn
 obtain ⟨W', k1, k2, k3⟩ := hn.sep.box (e := t) (arr := (a.eval x).cells) (cells_rel (hn.ev x) hy)
 unfold Oper.wp
 have hr : (execOp a.eval o).run P w = .ok (.value (.pointer (some ⟨w.heap.size, 0, none⟩))) (w.alloc (.cells (a.eval x).cells t)) := by
  simp only [execOp, ho]
  rfl
 rw [hr, Oper.upon_value, hd]
 exact ⟨_, _, W', h, (hn.next k1 k2).put hN (bp_new k3), k1⟩
end

/-! ### 2. Calls -/
def AVs (W : Wit) (R : List Res) (w : World) (xs : List AV) (vs : List Value) : Prop :=
 vs.length = xs.length ∧ ∀ (i : Nat) (x : AV) (v : Value), xs[i]? = some x → vs[i]? = some v → AVR W R w x v

def EFn (P : Program) (f : FuncId) (args : List AV) (R : List Res) (Q : AV → List Res → Prop) : Prop :=
 ∀ w W vals, AVs W R w args vals → Sep w W R → Calls P f vals.toArray w fun e w' => ∃ r R' W', Q r R' ∧ (∃ v, e = .returned v ∧ AVR W' R' w' r v) ∧ Sep w' W' R' ∧ Trans w W R w' W' R'

theorem EFn.mono {P : Program} {f : FuncId} {args : List AV} {R : List Res} {Q Q' : AV → List Res → Prop} (h : EFn P f args R Q) (hq : ∀ r R', Q r R' → Q' r R') : EFn P f args R Q' :=
 fun w W vals h1 h2 => (h w W vals h1 h2).mono fun e w' ⟨r, R', W', k1, k2⟩ => ⟨r, R', W', hq _ _ k1, k2⟩

/-- Is function f one with a body of its own? -/
def callable (P : Program) (f : FuncId) : Bool :=
 match P.funcs[f]? with
 | some fn => !(fn.name == "runtime.NumGoroutine") && fn.body.isSome
 | none => false

theorem run_callFunc {P : Program} {f : FuncId} (h : callable P f = true) (args : Array Value) (w : World) : (callFunc f args).run P w = .ok (.enter f args) w := by
 unfold callable at h
 split at h
 ·rename_i fn hf
  simp only [Bool.and_eq_true, Bool.not_eq_true'] at h
  simp only [callFunc, Sem.run_bind, run_program, Result.andThen_ok, hf, h.1, Bool.false_eq_true, if_false]
  cases hb : fn.body with
  | none => rw [hb] at h; simp at h
  | some c => simp
 ·cases h

def fill' (s : Slots) : Option Tmp → AV → Slots
 | some d, y => (d, y) :: s
 | none, _ => s

theorem Now.fill' {N : Nat} {s : Slots} {R : List Res} {a : Act} {w : World} {W : Wit} (h : Now N s R a w W) {dst : Option Tmp} (hd : ∀ d, dst = some d → d < N) {y : AV} {v : Value} (hv : AVR W R w y v) : Now N (E.fill' s dst y) R (a.put dst v) w W := by
 cases dst with
 | none => exact h
 | some d => exact h.put (hd d rfl) hv

theorem AVs.append {W : Wit} {R : List Res} {w : World} {xs ys : List AV} {vs us : List Value} (h : AVs W R w xs vs) (h' : AVs W R w ys us) : AVs W R w (xs ++ ys) (vs ++ us) := by
 refine ⟨by simp [h.1, h'.1], fun i x v hx hv => ?_⟩
 rw [List.getElem?_append] at hx hv
 by_cases hi : i < xs.length
 ·rw [if_pos hi] at hx
  rw [if_pos (by rw [h.1]; exact hi)] at hv
  exact h.2 i x v hx hv
 ·rw [if_neg hi] at hx
  rw [if_neg (by rw [h.1]; exact hi), h.1] at hv
  exact h'.2 _ x v hx hv

theorem AR.avs {W : Wit} {R : List Res} {w : World} {cs : List AC} {vs : List Value} (h : AR W R w cs vs) : AVs W R w (cs.map .c) vs := by
 refine ⟨by simp [h.length], fun i x v hx hv => ?_⟩
 have h1 := (h.drop i).take 1
 rw [List.getElem?_map] at hx
 cases hc : cs[i]? with
 | none => rw [hc] at hx; cases hx
 | some c =>
  rw [hc] at hx
  obtain rfl : AV.c c = x := by simpa using hx
  have e1 : (cs.drop i).take 1 = [c] := by
   rw [List.take_one, List.head?_drop, hc]; rfl
  have e2 : (vs.drop i).take 1 = [v] := by
   rw [List.take_one, List.head?_drop, hv]; rfl
  rw [e1, e2] at h1
  exact h1

theorem AR.fn_inv {W : Wit} {R : List Res} {w : World} {f : FuncId} {caps : List AC} {v : Value} (h : AR W R w [.fn f caps] [v]) : ∃ xs : List Value, v = .func (.func f) #[] xs.toArray ∧ AR W R w caps xs := by
 cases h with
 | fn h1 _ => exact ⟨_, rfl, h1⟩

section
variable {P : Program} {N : Nat} {s : Slots} {R : List Res} {K : Slots → List Res → Prop}

theorem EOp_call {o : Oper} {x : Operand} {args : Array Operand} {ats : Array TypeId} {f : FuncId} {caps : List AC} (ho : o.op = .call { callee := .value x, args := args, argTypes := ats }) (hd : ∀ d, o.dst = some d → d < N) (hx : ev s x = .c (.fn f caps)) (hf : callable P f = true)
  (h : EFn P f (args.toList.map (ev s) ++ caps.map .c) R fun r R' => K (fill' s o.dst r) R') : EOp P N o s R K := by
 intro Q a w W hn
 have hv := hn.ev x
 rw [hx] at hv
 obtain ⟨xs, e, h1⟩ := AR.fn_inv hv
 unfold Oper.wp
 have hr : (execOp a.eval o).run P w = .ok (.enter f (args.map a.eval ++ xs.toArray)) w := by
  simp only [execOp, ho, resolve, e, Deferred.ofValue, Sem.run_bind, Sem.run_pure, Result.andThen_ok, invoke]
  simpa using run_callFunc hf _ w
 rw [hr, Oper.upon_enter]
 have hav : AVs W R w (args.toList.map (ev s) ++ caps.map .c) (args.toList.map a.eval ++ xs) := by
  refine AVs.append ⟨by simp, fun i y v hy hu => ?_⟩ h1.avs
  rw [List.getElem?_map] at hy hu
  cases hi : args.toList[i]? with
  | none => rw [hi] at hy; cases hy
  | some z =>
   rw [hi] at hy hu
   obtain rfl : ev s z = y := by simpa using hy
   obtain rfl : a.eval z = v := by simpa using hu
   exact hn.ev z
 have hc := h w W _ hav hn.sep
 have hh : (args.toList.map a.eval ++ xs).toArray = args.map a.eval ++ xs.toArray := by
  apply Array.ext'; simp
 rw [hh] at hc
 refine hc.mono ?_
 rintro e' w' ⟨r, R', W', k1, ⟨v, rfl, k2⟩, k3, k4⟩
 exact ⟨_, R', W', k1, (hn.next k4 k3).fill' hd k2, k4⟩
end

/-- At which place does a number stand? -/
def ix : List Nat → Nat → Option Nat
 | [], _ => none
 | j :: l, i => if i = j then some 0 else (ix l i).map (· + 1)

theorem ix_get : ∀ {σ : List Nat} {i q : Nat}, ix σ i = some q → σ[q]? = some i
 | [], i, q, h => by cases h
 | j :: l, i, q, h => by
  unfold ix at h
  split at h
  ·rename_i e
   obtain rfl := Option.some.inj h
   simp [e]
  ·cases hq : ix l i with
   | none => rw [hq] at h; cases h
   | some p =>
    rw [hq] at h
    obtain rfl : p + 1 = q := by simpa using h
    simpa using ix_get hq

/-! ### 3. Resources told anew: fewer, in another order -/
def AC.ren (n : Nat) (σ : List Nat) : AC → AC
 | .sl i off len tot => if i < n then .sl i off len tot else match ix σ i with | some q => .sl (n + q) off len tot | none => .any
 | .bp i off => if i < n then .bp i off else match ix σ i with | some q => .bp (n + q) off | none => .any
 | .ep i j off tot => if i < n then .ep i j off tot else match ix σ i with | some q => .ep (n + q) j off tot | none => .any
 | .fn f caps => .fn f (rens n σ caps)
 | c => c
where rens (n : Nat) (σ : List Nat) : List AC → List AC
 | [] => []
 | c :: cs => c.ren n σ :: rens n σ cs

def AV.ren (n : Nat) (σ : List Nat) : AV → AV
 | .c x => .c (x.ren n σ)
 | .agg xs => .agg (AC.ren.rens n σ xs)
 | .tup xs => .tup (xs.map fun x => (x.1, AC.ren.rens n σ x.2))
 | .any => .any

def Res.ren (n : Nat) (σ : List Nat) : Res → Res
 | .box cs => .box (AC.ren.rens n σ cs)
 | .pin x u => .pin (x.ren n σ) u
 | r => r

def reR (n : Nat) (σ : List Nat) (R : List Res) : List Res := ((R.take n) ++ σ.map fun i => (R[i]?).getD .gone).map (Res.ren n σ)

def Wit.ren (W : Wit) (n : Nat) (σ : List Nat) : Wit :=
  ⟨fun i => if i < n then W.hs i else match σ[i - n]? with | some q => W.hs q | none => undef,
   fun i b => if i < n then W.fs i b else match σ[i - n]? with | some q => W.fs q b | none => False⟩

/-- Is it a list of resources from n on, without repetition? -/
def okσ (n : Nat) (R : List Res) (σ : List Nat) : Bool := decide σ.Nodup && σ.all fun i => decide (n ≤ i) && decide (i < R.length)

theorem reR_at {n : Nat} {σ : List Nat} {R : List Res} (hn : n ≤ R.length) {i : Nat} (hi : i < n) : (reR n σ R)[i]? = (R[i]?).map (Res.ren n σ) := by
 unfold reR
 rw [List.getElem?_map, List.getElem?_append_left (by rw [List.length_take]; omega), List.getElem?_take, if_pos hi]

theorem reR_new {n : Nat} {σ : List Nat} {R : List Res} (hn : n ≤ R.length) {q i : Nat} (hq : σ[q]? = some i) : (reR n σ R)[n + q]? = some (((R[i]?).getD .gone).ren n σ) := by
 unfold reR
 have hl : (R.take n).length = n := by rw [List.length_take]; omega
 rw [List.getElem?_map, List.getElem?_append_right (by omega), hl, show n + q - n = q by omega, List.getElem?_map, hq]
 rfl

theorem reR_len {n : Nat} {σ : List Nat} {R : List Res} (hn : n ≤ R.length) : (reR n σ R).length = n + σ.length := by
 unfold reR
 rw [List.length_map, List.length_append, List.length_map, List.length_take]
 omega

end Go.Proofs.YthnadkagchbhbaaGreat.E

namespace Go.Proofs.YthnadkagchbhbaaGreat.E
open Go Go.RowKit
set_option linter.unusedVariables false
set_option linter.unusedSimpArgs false

section
variable {w : World} {W : Wit} {R : List Res} {n : Nat} {σ : List Nat}

theorem nodup_inj : ∀ {l : List Nat}, l.Nodup → ∀ {a b x : Nat}, l[a]? = some x → l[b]? = some x → a = b
 | [], _, a, b, x, h, _ => by simp at h
 | y :: l, hn, a, b, x, h, h' => by
  obtain ⟨h1, h2⟩ := List.nodup_cons.1 hn
  cases a with
  | zero =>
   obtain rfl : y = x := by simpa using h
   cases b with
   | zero => rfl
   | succ b => exact absurd (List.mem_of_getElem? (show l[b]? = some y by simpa using h')) h1
  | succ a =>
   cases b with
   | zero =>
    obtain rfl : y = x := by simpa using h'
    exact absurd (List.mem_of_getElem? (show l[a]? = some y by simpa using h)) h1
   | succ b => rw [nodup_inj h2 (show l[a]? = some x by simpa using h) (show l[b]? = some x by simpa using h')]

theorem okσ_parts (h : okσ n R σ = true) : σ.Nodup ∧ ∀ i ∈ σ, n ≤ i ∧ i < R.length := by
 unfold okσ at h
 simp only [Bool.and_eq_true, decide_eq_true_eq, List.all_eq_true] at h
 exact h

theorem Wit.ren_hs (i : Nat) (hi : i < n) : (W.ren n σ).hs i = W.hs i := by simp [Wit.ren, hi]
theorem Wit.ren_hs_new {q i : Nat} (hq : σ[q]? = some i) : (W.ren n σ).hs (n + q) = W.hs i := by simp [Wit.ren, show ¬ n + q < n by omega, show n + q - n = q by omega, hq]
theorem Wit.ren_fs {i : Nat} (hi : i < n) (b : Nat) : (W.ren n σ).fs i b ↔ W.fs i b := by simp [Wit.ren, hi]
theorem Wit.ren_fs_new {q i : Nat} (hq : σ[q]? = some i) (b : Nat) : (W.ren n σ).fs (n + q) b ↔ W.fs i b := by simp [Wit.ren, show ¬ n + q < n by omega, show n + q - n = q by omega, hq]
theorem Wit.ren_sub (i b : Nat) (h : (W.ren n σ).fs i b) : ∃ j, W.fs j b ∧ (i < n → j = i) ∧ (¬ i < n → σ[i - n]? = some j) := by
 unfold Wit.ren at h
 simp only at h
 split at h
 ·rename_i hi; exact ⟨i, h, fun _ => rfl, fun h' => absurd hi h'⟩
 ·rename_i hi
  split at h
  ·rename_i q hq; exact ⟨q, h, fun h' => absurd h' hi, fun _ => hq⟩
  ·exact h.elim

theorem Wit.ren_out {b : Nat} (h : W.out w b) : (W.ren n σ).out w b := ⟨h.1, fun i hi => by obtain ⟨j, hj, _⟩ := Wit.ren_sub i b hi; exact h.2 j hj⟩

theorem Res.ren_row {r : Res} {e k : Nat} {rows : List (List T)} (h : r.ren n σ = .row e k rows) : r = .row e k rows := by cases r <;> first | exact h | cases h
theorem Res.ren_box {r : Res} {xs : List AC} (h : r.ren n σ = .box xs) : ∃ ys, r = .box ys ∧ xs = AC.ren.rens n σ ys := by
 cases r with
 | box ys => exact ⟨ys, rfl, by cases h; rfl⟩
 | row e k rows => cases h
 | gone => cases h
 | pin x u => cases h
theorem Res.ren_gone {r : Res} (h : r.ren n σ = .gone) : r = .gone := by cases r <;> first | exact h | cases h

/-- What stands at a place behind the telling anew. -/
theorem reR_back (hn : n ≤ R.length) (ho : okσ n R σ = true) {i : Nat} {r : Res} (h : (reR n σ R)[i]? = some r) :
  ∃ j r0, R[j]? = some r0 ∧ r = r0.ren n σ ∧ (W.ren n σ).hs i = W.hs j ∧ (∀ b, (W.ren n σ).fs i b ↔ W.fs j b) ∧ (i < n → j = i) ∧ (¬ i < n → σ[i - n]? = some j) := by
 obtain ⟨h1, h2⟩ := okσ_parts ho
 by_cases hi : i < n
 ·rw [reR_at hn hi] at h
  cases hr : R[i]? with
  | none => rw [hr] at h; cases h
  | some r0 =>
   rw [hr] at h
   exact ⟨i, r0, hr, (Option.some.inj h).symm, Wit.ren_hs i hi, Wit.ren_fs hi, fun _ => rfl, fun h' => absurd hi h'⟩
 ·have hlt : i < n + σ.length := by
   rw [← reR_len hn]
   rcases Nat.lt_or_ge i (reR n σ R).length with h' | h'
   ·exact h'
   ·rw [List.getElem?_eq_none h'] at h; cases h
  have hq : σ[i - n]? = some σ[i - n] := List.getElem?_eq_getElem (by omega)
  have hj := h2 _ (List.mem_of_getElem? hq)
  have := reR_new (R := R) hn hq
  rw [show n + (i - n) = i by omega] at this
  rw [this] at h
  rw [List.getElem?_eq_getElem hj.2, Option.getD_some] at h
  refine ⟨_, _, List.getElem?_eq_getElem hj.2, (Option.some.inj h).symm, ?_, ?_, fun h' => absurd h' hi, fun _ => hq⟩
  ·have := Wit.ren_hs_new (W := W) (n := n) hq; rwa [show n + (i - n) = i by omega] at this
  ·have := Wit.ren_fs_new (W := W) (n := n) hq; rwa [show n + (i - n) = i by omega] at this

theorem AR.ren (hn : n ≤ R.length) (ho : okσ n R σ = true) {cs : List AC} {vs : List Value} (h : AR W R w cs vs) : AR (W.ren n σ) (reR n σ R) w (AC.ren.rens n σ cs) vs := by
 have hlen := reR_len (σ := σ) hn
 have at_old : ∀ {i : Nat}, i < n → ∀ {r : Res}, (reR n σ R)[i]? = some r → ∃ r0, R[i]? = some r0 ∧ r = r0.ren n σ ∧ (W.ren n σ).hs i = W.hs i := fun {i} hi {r} hr => by
  obtain ⟨j, r0, h1, h2, h3, _, h5, _⟩ := reR_back (W := W) hn ho hr
  obtain rfl := h5 hi
  exact ⟨r0, h1, h2, h3⟩
 have at_new : ∀ {i q : Nat}, ix σ i = some q → ∀ {r : Res}, (reR n σ R)[n + q]? = some r → ∃ r0, R[i]? = some r0 ∧ r = r0.ren n σ ∧ (W.ren n σ).hs (n + q) = W.hs i := fun {i q} hq {r} hr => by
  obtain ⟨j, r0, h1, h2, h3, _, _, h6⟩ := reR_back (W := W) hn ho hr
  have := h6 (by omega)
  rw [show n + q - n = q by omega, ix_get hq] at this
  obtain rfl := Option.some.inj this
  exact ⟨r0, h1, h2, h3⟩
 have lt_new : ∀ {i q : Nat}, ix σ i = some q → n + q < (reR n σ R).length := fun {i q} hq => by
  rw [hlen]
  have := ix_get hq
  rcases Nat.lt_or_ge q σ.length with h' | h'
  ·omega
  ·rw [List.getElem?_eq_none h'] at this; cases this
 induction h with
 | nil => exact .nil
 | sc h1 _ ih => exact .sc h1 ih
 | any h1 _ ih => exact .any h1 ih
 | ro h1 _ ih => exact .ro (h1.mono fun b hb => ⟨Wit.ren_out hb, rfl⟩) ih
 | rp b o inner h1 h2 h3 h4 _ ih => exact .rp b o inner h1 (Wit.ren_out h2) (h3.mono fun b hb => ⟨Wit.ren_out hb, rfl⟩) h4 ih
 | fn _ _ ih1 ih2 => exact .fn ih1 ih2
 | @sl i off len tot v cs vs h1 h2 h3 _ ih =>
  simp only [AC.ren.rens, AC.ren]
  split
  ·rename_i hi
   refine .sl h1 (by omega) (fun e k rows hr => ?_) ih
   obtain ⟨r0, e1, e2, e3⟩ := at_old hi hr
   rw [Res.ren_row e2.symm] at e1
   rw [e3]; exact h3 e k rows e1
  ·split
   ·rename_i q hq
    refine .sl h1 (lt_new hq) (fun e k rows hr => ?_) ih
    obtain ⟨r0, e1, e2, e3⟩ := at_new hq hr
    rw [Res.ren_row e2.symm] at e1
    rw [e3]; exact h3 e k rows e1
   ·exact .any h1 ih
 | @ep i j off tot v cs vs h1 h2 h3 _ ih =>
  simp only [AC.ren.rens, AC.ren]
  split
  ·rename_i hi
   refine .ep h1 (by omega) (fun e k rows hr => ?_) ih
   obtain ⟨r0, e1, e2, e3⟩ := at_old hi hr
   rw [Res.ren_row e2.symm] at e1
   rw [e3]; exact h3 e k rows e1
  ·split
   ·rename_i q hq
    refine .ep h1 (lt_new hq) (fun e k rows hr => ?_) ih
    obtain ⟨r0, e1, e2, e3⟩ := at_new hq hr
    rw [Res.ren_row e2.symm] at e1
    rw [e3]; exact h3 e k rows e1
   ·exact .any h1 ih
 | @bp i off v cs vs h1 h2 h3 _ ih =>
  simp only [AC.ren.rens, AC.ren]
  split
  ·rename_i hi
   refine .bp h1 (by omega) (fun xs hr => ?_) ih
   obtain ⟨r0, e1, e2, e3⟩ := at_old hi hr
   obtain ⟨ys, rfl, _⟩ := Res.ren_box e2.symm
   rw [e3]; exact h3 ys e1
  ·split
   ·rename_i q hq
    refine .bp h1 (lt_new hq) (fun xs hr => ?_) ih
    obtain ⟨r0, e1, e2, e3⟩ := at_new hq hr
    obtain ⟨ys, rfl, _⟩ := Res.ren_box e2.symm
    rw [e3]; exact h3 ys e1
   ·exact .any h1 ih

theorem Sep.ren (hs : Sep w W R) (hn : n ≤ R.length) (ho : okσ n R σ = true) : Sep w (W.ren n σ) (reR n σ R) := by
 obtain ⟨g1, g2⟩ := okσ_parts ho
 refine ⟨fun i r hr => ?_, fun i hi b hb => ?_, fun i hi b hb => ?_, fun i j b hi hj => ?_, fun i b hb => ?_⟩
 ·obtain ⟨j, r0, h1, rfl, h3, h4, _⟩ := reR_back (W := W) hn ho hr
  have := hs.res j r0 h1
  rw [h3]
  cases r0 with
  | box cs =>
   obtain ⟨b, arr, e, f1, f2, f3, f4⟩ := this
   exact ⟨b, arr, e, f1, fun x => (h4 x).trans (f2 x), f3, f4.ren hn ho⟩
  | row e k rows =>
   obtain ⟨f1, f2, cells, G, f3, f4, f5, f6⟩ := this
   exact ⟨f1, f2, cells, G, f3, f4, f5, fun b => (h4 b).trans (f6 b)⟩
  | gone => trivial
  | pin x u =>
   obtain ⟨f1, f2⟩ := this
   exact ⟨fun b hb => f1 b ((h4 b).1 hb), f2.ren hn ho⟩
 ·rw [reR_len hn] at hi
  obtain ⟨j, _, _, h3⟩ := Wit.ren_sub i b hb
  have := h3 (by omega)
  rw [List.getElem?_eq_none (by omega)] at this
  cases this
 ·obtain ⟨j, r0, h1, h2, h3, h4, _⟩ := reR_back (W := W) hn ho hi
  rw [Res.ren_gone h2.symm] at h1
  exact hs.gone j h1 b ((h4 b).1 hb)
 ·obtain ⟨p, h1, h2, h3⟩ := Wit.ren_sub i b hi
  obtain ⟨q, k1, k2, k3⟩ := Wit.ren_sub j b hj
  have e := hs.apart p q b h1 k1
  subst e
  by_cases hin : i < n
  ·by_cases hjn : j < n
   ·have := h2 hin; have := k2 hjn; omega
   ·have e1 := h2 hin
    have := g2 p (List.mem_of_getElem? (k3 hjn))
    omega
  ·by_cases hjn : j < n
   ·have e1 := k2 hjn
    have := g2 p (List.mem_of_getElem? (h3 hin))
    omega
   ·have e1 := h3 hin
    have e2 := k3 hjn
    have := nodup_inj g1 e1 e2
    omega
 ·obtain ⟨j, h1, _⟩ := Wit.ren_sub i b hb
  exact hs.lt j b h1

theorem AVR.ren {x : AV} {v : Value} (hx : AVR W R w x v) (hn : n ≤ R.length) (ho : okσ n R σ = true) : AVR (W.ren n σ) (reR n σ R) w (x.ren n σ) v := by
 cases x with
 | c x =>
  have h : AR W R w [x] [v] := hx
  exact h.ren hn ho
 | agg xs =>
  obtain ⟨vs, e, h⟩ := hx
  exact ⟨vs, e, h.ren hn ho⟩
 | tup xs =>
  obtain ⟨us, e, hl, h⟩ := hx
  refine ⟨us, e, by simp [hl], fun i y u h1 h2 => ?_⟩
  rw [List.getElem?_map] at h1
  cases hy : xs[i]? with
  | none => rw [hy] at h1; cases h1
  | some z =>
   rw [hy] at h1
   obtain rfl := Option.some.inj h1
   obtain ⟨vs, e1, e2⟩ := h i z u hy h2
   exact ⟨vs, e1, e2.ren hn ho⟩
 | any => trivial

theorem Goes.ren {v v' : Value} : ∀ {a b : Option Res}, Goes v v' a b → Goes v v' a (b.map (Res.ren n σ))
 | none, _, _ => trivial
 | some (.box _), some (.box _), h => h
 | some (.row _ _ _), some (.row _ _ _), h => h
 | some (.box _), some .gone, _ => trivial
 | some (.row _ _ _), some .gone, _ => trivial
 | some .gone, some .gone, _ => trivial
 | some (.pin _ _), some (.pin _ _), _ => trivial
 | some (.pin _ _), some .gone, _ => trivial

theorem Trans.ren {w0 : World} {W0 : Wit} {R0 : List Res} (h : Trans w0 W0 R0 w W R) (hn : R0.length = n) (ho : okσ n R σ = true) : Trans w0 W0 R0 w (W.ren n σ) (reR n σ R) := by
 have hl := h.len
 refine ⟨h.os, h.tape, h.output, h.size, h.frame, fun i b hb => ?_, fun i => ?_⟩
 ·obtain ⟨j, hj, _⟩ := Wit.ren_sub i b hb
  exact h.own j b hj
 ·rcases Nat.lt_or_ge i n with hi | hi
  ·rw [reR_at (by omega) hi, Wit.ren_hs i hi]
   exact (h.goes i).ren
  ·rw [List.getElem?_eq_none (by omega)]; exact trivial
end

/-! ### What a function comes to -/
def rv1 (P : Program) (R : List Res) (s : Slots) : ResultVar → AV
 | .tmp t => get s t
 | .cell a t => (ldv P R t (get s a)).getD .any

def comp : AV → Option (Bool × List AC)
 | .c x => some (false, [x])
 | .agg xs => some (true, xs)
 | _ => none

def okR (P : Program) (R : List Res) (s : Slots) : ResultVar → Bool
 | .tmp _ => true
 | .cell a t => (ldv P R t (get s a)).isSome

def resv (P : Program) (R : List Res) (s : Slots) (rs : List ResultVar) : Option AV :=
 if rs.all (okR P R s) then match rs with
  | [r] => some (rv1 P R s r)
  | rs => (rs.mapM fun r => comp (rv1 P R s r)).map .tup
 else none

theorem rv1_run {P : Program} {N : Nat} {s : Slots} {R : List Res} {a : Act} {w : World} {W : Wit} (hn : Now N s R a w W) {r : ResultVar} (ho : okR P R s r = true) :
  ∃ v, (match r with | .tmp t => pure (a.tmps.getD t undef) | .cell p t => do loadVar t (← asAddr (a.tmps.getD p undef)) : Sem Value).run P w = .ok v w ∧ AVR W R w (rv1 P R s r) v := by
 cases r with
 | tmp t => exact ⟨_, rfl, hn.val t⟩
 | cell p t =>
  simp only [okR] at ho
  cases hl : ldv P R t (get s p) with
  | none => rw [hl] at ho; cases ho
  | some y =>
   obtain ⟨agg, n, b, o, vs, h1, h2, h3, h4, h5, h6⟩ := ldv_cells hn.sep (hn.val p) hl
   refine ⟨asV agg vs, ?_, by simp only [rv1, hl, Option.getD_some]; exact h6⟩
   simp only [h2, asAddr, Sem.run_bind, Sem.run_pure, Result.andThen_ok, run_loadVar_ h1 vs h3 h4 h5]

theorem rvs_run {P : Program} {N : Nat} {s : Slots} {R : List Res} {a : Act} {w : World} {W : Wit} (hn : Now N s R a w W) : ∀ {rs : List ResultVar}, rs.all (okR P R s) = true →
  ∃ vs, (rs.mapM fun r => (match r with | .tmp t => pure (a.tmps.getD t undef) | .cell p t => do loadVar t (← asAddr (a.tmps.getD p undef)) : Sem Value)).run P w = .ok vs w ∧ AVs W R w (rs.map (rv1 P R s)) vs
 | [], _ => ⟨[], by simp, rfl, by simp⟩
 | r :: rs, h => by
  simp only [List.all_cons, Bool.and_eq_true] at h
  obtain ⟨v, h1, h2⟩ := rv1_run hn h.1
  obtain ⟨vs, h3, h4⟩ := rvs_run hn h.2
  refine ⟨v :: vs, ?_, by simp [h4.1], fun i x u hx hu => ?_⟩
  ·rw [List.mapM_cons, Sem.run_bind, h1, Result.andThen_ok, Sem.run_bind, h3]; rfl
  ·cases i with
   | zero =>
    obtain rfl : rv1 P R s r = x := by simpa using hx
    obtain rfl : v = u := by simpa using hu
    exact h2
   | succ i => exact h4.2 i x u (by simpa using hx) (by simpa using hu)

theorem resv_run {P : Program} {N : Nat} {s : Slots} {R : List Res} {a : Act} {w : World} {W : Wit} {fn : Func} {y : AV} (hn : Now N s R a w W) (h : resv P R s fn.results.toList = some y) :
  ∃ v, (results fn a.tmps).run P w = .ok v w ∧ AVR W R w y v := by
 unfold resv at h
 split at h
 ·rename_i hall
  obtain ⟨vs, h1, h2, h3⟩ := rvs_run (P := P) hn hall
  have hrun : (results fn a.tmps).run P w = .ok (if h : vs.toArray.size = 1 then vs.toArray[0] else .tuple vs.toArray) w := by
   unfold results
   rw [Array.mapM_eq_mapM_toList]
   simp only [Sem.run_bind, Sem.run_map, Sem.run_pure]
   exact congrArg (fun z => Result.andThen (Result.andThen z (fun (l : List Value) w' => Result.ok l.toArray w')) (fun (b : Array Value) w' => Result.ok (if h : b.size = 1 then b[0] else Value.tuple b) w')) h1
  split at h
  ·rename_i r hr
   rw [hr] at h2 h3
   obtain rfl := Option.some.inj h
   match hvs : vs, h2 with
   | [v], _ =>
    subst hvs
    exact ⟨v, by rw [hrun]; rfl, h3 0 _ v rfl rfl⟩
  ·rename_i rs hne
   have hlen : vs.length ≠ 1 := by
    intro h1'
    rw [h2, List.length_map] at h1'
    match hq : fn.results.toList, h1' with
    | [r], _ => exact hne r hq
   refine ⟨.tuple vs.toArray, by rw [hrun]; simp [hlen], ?_⟩
   cases hm : (fn.results.toList.mapM fun r => comp (rv1 P R s r)) with
   | none => rw [hm] at h; cases h
   | some cs =>
    rw [hm] at h
    obtain rfl := Option.some.inj h
    have key : ∀ {l : List ResultVar} {cs : List (Bool × List AC)} {vs : List Value}, (l.mapM fun r => comp (rv1 P R s r)) = some cs → AVs W R w (l.map (rv1 P R s)) vs → vs.length = cs.length ∧ ∀ (i : Nat) (x : Bool × List AC) (u : Value), cs[i]? = some x → vs[i]? = some u → CR W R w x u := by
     intro l
     induction l with
     | nil =>
      intro cs vs hm hv
      have e : [] = cs := by simpa using hm
      subst e
      exact ⟨by simpa using hv.1, by simp⟩
     | cons r l ih =>
      intro cs vs hm hv
      rw [List.mapM_cons] at hm
      cases hc : comp (rv1 P R s r) with
      | none => rw [hc] at hm; cases hm
      | some c =>
       rw [hc] at hm
       cases hm2 : (l.mapM fun r => comp (rv1 P R s r)) with
       | none => rw [hm2] at hm; cases hm
       | some cs' =>
        rw [hm2] at hm
        obtain rfl : c :: cs' = cs := by simpa using hm
        match vs, hv with
        | v :: vs, hv =>
         obtain ⟨k1, k2⟩ := ih hm2 (vs := vs) ⟨by simpa using hv.1, fun i x u hx hu => hv.2 (i + 1) x u (by simpa using hx) (by simpa using hu)⟩
         refine ⟨by simp [k1], fun i x u hx hu => ?_⟩
         cases i with
         | succ i => exact k2 i x u (by simpa using hx) (by simpa using hu)
         | zero =>
          obtain rfl : c = x := by simpa using hx
          obtain rfl : v = u := by simpa using hu
          have := hv.2 0 _ v rfl rfl
          unfold comp at hc
          split at hc
          ·rename_i z hz
           obtain rfl := Option.some.inj hc
           rw [hz] at this
           exact ⟨[v], by simp, this⟩
          ·rename_i z hz
           obtain rfl := Option.some.inj hc
           rw [hz] at this
           obtain ⟨us, e1, e2⟩ := this
           exact ⟨us, by simp [e1], e2⟩
          ·cases hc
        | [], hv => exact absurd hv.1 (by simp)
    obtain ⟨k1, k2⟩ := key hm ⟨h2, h3⟩
    exact ⟨vs, rfl, k1, k2⟩
 ·cases h

def slotsOf : Nat → List AV → Slots
 | _, [] => []
 | i, x :: xs => (i, x) :: slotsOf (i + 1) xs

theorem get_slotsOf : ∀ (xs : List AV) (i t : Nat), get (slotsOf i xs) t = if i ≤ t then (xs[t - i]?).getD .any else .any
 | [], i, t => by simp [slotsOf, get]
 | x :: xs, i, t => by
  simp only [slotsOf, get, get_slotsOf xs (i + 1) t]
  by_cases h : i = t
  ·subst h; simp
  ·rw [if_neg h]
   by_cases h2 : i ≤ t
   ·rw [if_pos h2, if_pos (by omega), show t - i = (t - (i + 1)) + 1 by omega]
    simp
   ·rw [if_neg h2, if_neg (by omega)]

/-- What is asked where a function ends. -/
def RetQ (P : Program) (rs : List ResultVar) (n : Nat) (Q : AV → List Res → Prop) : Exit → Slots → List Res → Prop
 | .normal, s, R => ∃ y σ, resv P R s rs = some y ∧ okσ n R σ = true ∧ Q (y.ren n σ) (reR n σ R)
 | .ret, s, R => ∃ y σ, resv P R s rs = some y ∧ okσ n R σ = true ∧ Q (y.ren n σ) (reR n σ R)
 | _, _, _ => False

theorem E_fn {P : Program} {f : FuncId} {fn : Func} {c : Code} {args : List AV} {R : List Res} {Q : AV → List Res → Prop} (hf : P.funcs[f]? = some fn) (hb : fn.body = some c) (ha : args.length ≤ fn.ntmps)
  (h : ECode P fn.ntmps c (slotsOf 0 args) R (RetQ P fn.results.toList R.length Q)) : EFn P f args R Q := by
 intro w W vals hv hs
 have hnow : Now fn.ntmps (slotsOf 0 args) R { tmps := vals.toArray ++ Array.replicate (fn.ntmps - vals.toArray.size) undef, defers := [] } w W := by
  refine ⟨by simp [hv.1]; omega, rfl, fun t => ?_, hs⟩
  rw [get_slotsOf, if_pos (Nat.zero_le _), Nat.sub_zero]
  cases hx : args[t]? with
  | none => exact AVR.any ..
  | some x =>
   have hlt : t < vals.length := by
    rw [hv.1]
    rcases Nat.lt_or_ge t args.length with h' | h'
    ·exact h'
    ·rw [List.getElem?_eq_none h'] at hx; cases hx
   have hu : vals[t]? = some vals[t] := List.getElem?_eq_getElem hlt
   have := hv.2 t x _ hx hu
   simpa [Array.getD_eq_getD_getElem?, Array.getElem?_append, hlt] using this
 refine calls_of_wp hf hb (wp_mono (h _ w W hnow) fun e a w' hr => ?_)
 obtain ⟨s', R', W', hq, hn', ht⟩ := hr
 have fin : (∃ y σ, resv P R' s' fn.results.toList = some y ∧ okσ R.length R' σ = true ∧ Q (y.ren R.length σ) (reR R.length σ R')) →
   a.defers = [] ∧ ∃ v, (results fn a.tmps).run P w' = .ok v w' ∧ ∃ r R' W', Q r R' ∧ (∃ u, Ending.returned v = .returned u ∧ AVR W' R' w' r u) ∧ Sep w' W' R' ∧ Trans w W R w' W' R' := by
  rintro ⟨y, σ, h1, h2, h3⟩
  obtain ⟨v, k1, k2⟩ := resv_run hn' h1
  have hl := ht.len
  exact ⟨hn'.defers, v, k1, _, _, W'.ren R.length σ, h3, ⟨v, rfl, k2.ren hl h2⟩, hn'.sep.ren hl h2, ht.ren rfl h2⟩
 cases e with
 | normal => exact fin hq
 | ret => exact fin hq
 | exit id => exact hq.elim
 | goto l => exact hq.elim
 | panic ch => exact hq.elim
 | outgrown => exact hq.elim

end Go.Proofs.YthnadkagchbhbaaGreat.E

namespace Go.Proofs.YthnadkagchbhbaaGreat.E
open Go Go.RowKit
set_option linter.unusedVariables false
set_option linter.unusedSimpArgs false

/-! ### 1. Lending -/
def W0 : Wit := ⟨fun _ => undef, fun _ _ => False⟩

def lendC (R : List Res) : AC → AC
 | .sc (.slice none 0 0) => .ro []
 | .sl i off len tot => match R[i]? with
  | some (.row e k rows) => if rows.length = tot then .ro ((rows.drop off).take len) else .any
  | _ => .any
 | .bp _ _ => .any
 | .ep _ _ _ _ => .any
 | .fn f caps => match caps with | [] => .fn f [] | _ => .any
 | c => c

def lend (R : List Res) : AV → AV
 | .c x => .c (lendC R x)
 | .agg xs => .agg (xs.map (lendC R))
 | .tup _ => .any
 | .any => .any

theorem flatten_sub {α : Type} {k : Nat} : ∀ {rows : List (List α)} (_ : ∀ r ∈ rows, r.length = k) (off len : Nat), ((rows.drop off).take len).flatten = (rows.flatten.drop (off * k)).take (len * k)
 | [], _, off, len => by simp
 | r :: rows, hk, 0, 0 => by simp
 | r :: rows, hk, 0, len + 1 => by
  have h0 := hk r (List.mem_cons_self ..)
  have ih := flatten_sub (fun x hx => hk x (List.mem_cons_of_mem _ hx)) 0 len
  simp only [List.drop_zero, Nat.zero_mul] at ih ⊢
  rw [List.take_succ_cons, List.flatten_cons, List.flatten_cons, ih, show (len + 1) * k = r.length + len * k by rw [h0, Nat.add_mul]; omega, List.take_length_add_append]
 | r :: rows, hk, off + 1, len => by
  have h0 := hk r (List.mem_cons_self ..)
  have ih := flatten_sub (fun x hx => hk x (List.mem_cons_of_mem _ hx)) off len
  rw [List.drop_succ_cons, ih, List.flatten_cons, show (off + 1) * k = r.length + off * k by rw [h0, Nat.add_mul]; omega, List.drop_length_add_append]

theorem nil_ro (w : World) (O : Nat → Prop) : Rd w O [.sl []] [.slice none 0 0] :=
 Rd.sl (w := w) (O := O) (rows := []) (a := none) (c := 0) (inner := []) (ts := []) (vs := []) 1 ⟨Nat.le_refl _, Nat.zero_le _⟩ (by omega) (by simp) (fun h => by simp at h) .nil .nil

theorem W0_out {w : World} {W : Wit} {b : Nat} (h : W.out w b) : W0.out w b := ⟨h.1, fun _ h => h⟩

theorem AR.lend {W : Wit} {R : List Res} {w : World} (hs : Sep w W R) {cs : List AC} {vs : List Value} (h : AR W R w cs vs) : AR W0 [] w (cs.map (lendC R)) vs := by
 induction h with
 | nil => exact .nil
 | @sc v cs vs h1 _ ih =>
  simp only [List.map_cons, lendC]
  split
  case h_1 e =>
   obtain rfl : v = .slice none 0 0 := by cases e; rfl
   exact .ro (nil_ro _ _) ih
  case h_6 => exact .sc h1 ih
  all_goals (rename_i e; cases e)
 | any h1 _ ih => exact .any h1 ih
 | ro h1 _ ih => exact .ro (h1.mono fun b hb => ⟨W0_out hb, rfl⟩) ih
 | rp b o inner h1 h2 h3 h4 _ ih => exact .rp b o inner h1 (W0_out h2) (h3.mono fun b hb => ⟨W0_out hb, rfl⟩) h4 ih
 | bp h1 _ _ _ ih => exact .any h1 ih
 | ep h1 _ _ _ ih => exact .any h1 ih
 | @fn f caps xs cs vs h1 _ ih1 ih2 =>
  cases caps with
  | nil =>
   cases h1
   exact AR.fn (xs := []) .nil ih2
  | cons c cs' => exact .any rfl ih2
 | @sl i off len tot v cs vs h1 h2 h3 _ ih =>
  simp only [List.map_cons, lendC]
  split
  ·rename_i e k rows hR
   split
   ·rename_i ht
    refine .ro ?_ ih
    obtain ⟨a, n, c, e1, e0, e2⟩ := (h3 _ _ _ hR).2 ht
    obtain ⟨f1, f2, cells, G, f3, f4, f5, f6⟩ := hs.res i _ hR
    obtain ⟨a', c', g1, g2, gm, g0, g3⟩ := ownsRow_reads f3
    rw [e1] at g1
    obtain ⟨rfl, rfl, rfl⟩ : a = a' ∧ n = rows.length ∧ c = c' := by cases g1; exact ⟨rfl, rfl, rfl⟩
    have hsub : ((rows.drop off).take len).length = len := by rw [List.length_take, List.length_drop]; omega
    have hrd : Rd w (W0.out w) rows.flatten cells := f4.rd fun b hb => ⟨f4.lt b hb, fun _ h => h⟩
    have hrd2 : Rd w (W0.out w) ((rows.drop off).take len).flatten ((cells.drop (off * k)).take (len * k)) := by
     rw [flatten_sub f2]; exact (hrd.drop _).take _
    have hk2 : ∀ r ∈ (rows.drop off).take len, r.length = k := fun r hr => f2 r (List.mem_of_mem_drop (List.mem_of_mem_take hr))
    rcases e2 with e2 | ⟨rfl, h0, a2, c2, e2, e3⟩
    ·subst e2
     have := Rd.sl (w := w) (O := W0.out w) (rows := (rows.drop off).take len) (a := a.map fun b => ⟨b.block, off * k, none⟩) (c := c - off) (inner := (cells.drop (off * k)).take (len * k)) (ts := []) (vs := []) k ⟨by omega, by omega⟩ f1 hk2 (fun hp => by
      obtain ⟨b, rfl, hb, hc⟩ := g3 (by omega)
      refine ⟨b, off * k, rfl, ⟨(f3.lt b hb).2, fun _ h => h⟩, fun j u hj => ?_⟩
      rw [List.getElem?_take] at hj
      split at hj
      ·rw [List.getElem?_drop] at hj
       have := hc _ u hj
       rwa [Nat.zero_add] at this
      ·cases hj) hrd2 .nil
     rwa [hsub] at this
    ·subst e2
     have := Rd.sl (w := w) (O := W0.out w) (rows := (rows.drop off).take 0) (a := a2) (c := c2) (inner := []) (ts := []) (vs := []) k ⟨by simp, e3⟩ f1 (by simp) (fun hp => by simp at hp) (by simpa using Rd.nil) .nil
     simpa using this
   ·exact .any h1 ih
  ·exact .any h1 ih

theorem AVR.lend {W : Wit} {R : List Res} {w : World} (hs : Sep w W R) {x : AV} {v : Value} (h : AVR W R w x v) : AVR W0 [] w (E.lend R x) v := by
 cases x with
 | c x => exact AR.lend hs (show AR W R w [x] [v] from h)
 | agg xs =>
  obtain ⟨vs, e, h⟩ := h
  exact ⟨vs, e, h.lend hs⟩
 | tup xs => trivial
 | any => trivial

theorem Sep.none (w : World) : Sep w W0 [] := ⟨fun i r h => by simp at h, fun _ _ _ h => h, fun i h => by simp at h, fun _ _ _ h => h.elim, fun _ _ h => h.elim⟩

/-! ### 2. Resources that a callee has made, behind one's own -/
def AC.sh (n : Nat) : AC → AC
 | .sl i off len tot => .sl (n + i) off len tot
 | .bp i off => .bp (n + i) off
 | .ep i j off tot => .ep (n + i) j off tot
 | .fn f caps => .fn f (shs n caps)
 | c => c
where shs (n : Nat) : List AC → List AC
 | [] => []
 | c :: cs => c.sh n :: shs n cs

/-- Nothing that is read alone. -/
def AC.own : AC → Bool
 | .ro _ => false
 | .rp _ => false
 | .fn _ caps => owns caps
 | _ => true
where owns : List AC → Bool
 | [] => true
 | c :: cs => c.own && owns cs

def AV.sh (n : Nat) : AV → AV
 | .c x => .c (x.sh n)
 | .agg xs => .agg (AC.sh.shs n xs)
 | .tup xs => .tup (xs.map fun x => (x.1, AC.sh.shs n x.2))
 | .any => .any

def AV.own : AV → Bool
 | .c x => x.own
 | .agg xs => AC.own.owns xs
 | .tup xs => xs.all fun x => AC.own.owns x.2
 | .any => true

def Res.sh (n : Nat) : Res → Res
 | .box cs => .box (AC.sh.shs n cs)
 | .pin x u => .pin (x.sh n) u
 | r => r

def Res.own : Res → Bool
 | .box cs => AC.own.owns cs
 | .pin x _ => x.own
 | _ => true

def Wit.join (n : Nat) (W V : Wit) : Wit := ⟨fun i => if i < n then W.hs i else V.hs (i - n), fun i b => if i < n then W.fs i b else V.fs (i - n) b⟩

section
variable {w : World} {W V : Wit} {R S : List Res}

theorem join_back {i : Nat} {r : Res} (h : (R ++ S.map (Res.sh R.length))[R.length + i]? = some r) : ∃ r0, S[i]? = some r0 ∧ r = r0.sh R.length := by
 rw [List.getElem?_append_right (by omega), show R.length + i - R.length = i by omega, List.getElem?_map] at h
 cases hs : S[i]? with
 | none => rw [hs] at h; cases h
 | some r0 => rw [hs] at h; exact ⟨r0, rfl, (Option.some.inj h).symm⟩

theorem Res.sh_row {r : Res} {n e k : Nat} {rows : List (List T)} (h : Res.row e k rows = r.sh n) : r = .row e k rows := by cases r <;> first | exact h.symm | cases h
theorem Res.sh_box {r : Res} {n : Nat} {xs : List AC} (h : Res.box xs = r.sh n) : ∃ ys, r = .box ys ∧ xs = AC.sh.shs n ys := by
 cases r with
 | box ys => exact ⟨ys, rfl, by cases h; rfl⟩
 | row e k rows => cases h
 | gone => cases h
 | pin x u => cases h

theorem AR.sh {cs : List AC} {vs : List Value} (h : AR V S w cs vs) : AC.own.owns cs = true → AR (Wit.join R.length W V) (R ++ S.map (Res.sh R.length)) w (AC.sh.shs R.length cs) vs := by
 have hh : ∀ i, (Wit.join R.length W V).hs (R.length + i) = V.hs i := fun i => by
  simp only [Wit.join, show ¬ R.length + i < R.length by omega, if_false, show R.length + i - R.length = i by omega]
 have hl : ∀ i, i < S.length → R.length + i < (R ++ S.map (Res.sh R.length)).length := fun i hi => by simp; omega
 induction h with
 | nil => intro _; exact .nil
 | sc h1 _ ih => intro ho; exact .sc h1 (ih (by simpa [AC.own.owns, AC.own] using ho))
 | any h1 _ ih => intro ho; exact .any h1 (ih (by simpa [AC.own.owns, AC.own] using ho))
 | ro h1 _ ih => intro ho; simp [AC.own.owns, AC.own] at ho
 | rp b o inner h1 h2 h3 h4 _ ih => intro ho; simp [AC.own.owns, AC.own] at ho
 | fn _ _ ih1 ih2 =>
  intro ho
  simp only [AC.own.owns, AC.own, Bool.and_eq_true] at ho
  exact .fn (ih1 ho.1) (ih2 ho.2)
 | sl h1 h2 h3 _ ih =>
  intro ho
  refine .sl h1 (hl _ h2) (fun e k rows hr => ?_) (ih (by simpa [AC.own.owns, AC.own] using ho))
  obtain ⟨r0, e1, e2⟩ := join_back hr
  rw [Res.sh_row e2] at e1
  rw [hh]; exact h3 e k rows e1
 | ep h1 h2 h3 _ ih =>
  intro ho
  refine .ep h1 (hl _ h2) (fun e k rows hr => ?_) (ih (by simpa [AC.own.owns, AC.own] using ho))
  obtain ⟨r0, e1, e2⟩ := join_back hr
  rw [Res.sh_row e2] at e1
  rw [hh]; exact h3 e k rows e1
 | bp h1 h2 h3 _ ih =>
  intro ho
  refine .bp h1 (hl _ h2) (fun xs hr => ?_) (ih (by simpa [AC.own.owns, AC.own] using ho))
  obtain ⟨r0, e1, e2⟩ := join_back hr
  obtain ⟨ys, rfl, _⟩ := Res.sh_box e2
  rw [hh]; exact h3 ys e1

theorem AVR.sh {x : AV} {v : Value} (h : AVR V S w x v) (ho : x.own = true) : AVR (Wit.join R.length W V) (R ++ S.map (Res.sh R.length)) w (x.sh R.length) v := by
 cases x with
 | c x => exact AR.sh (show AR V S w [x] [v] from h) (by simpa [AC.own.owns, AV.own] using ho)
 | agg xs =>
  obtain ⟨vs, e, h⟩ := h
  exact ⟨vs, e, h.sh ho⟩
 | tup xs =>
  obtain ⟨us, e, hl, h⟩ := h
  refine ⟨us, e, by simp [hl], fun i y u h1 h2 => ?_⟩
  rw [List.getElem?_map] at h1
  cases hy : xs[i]? with
  | none => rw [hy] at h1; cases h1
  | some z =>
   rw [hy] at h1
   obtain rfl := Option.some.inj h1
   obtain ⟨vs, e1, e2⟩ := h i z u hy h2
   have hz : AC.own.owns z.2 = true := by
    simp only [AV.own, List.all_eq_true] at ho
    exact ho z (List.mem_of_getElem? hy)
   exact ⟨vs, e1, e2.sh hz⟩
 | any => trivial
end

/-- A callee that was shown over no resources goes under any: what stands is not turned. -/
theorem EFn.frame {P : Program} {f : FuncId} {args : List AV} {R : List Res} {Q : AV → List Res → Prop} (h : EFn P f (args.map (E.lend R)) [] Q) (hq : ∀ r S, Q r S → r.own = true ∧ S.all Res.own = true) :
  ∀ w W vals, AVs W R w args vals → Sep w W R → Calls P f vals.toArray w fun e w' => ∃ r S W', Q r S ∧ (∃ v, e = .returned v ∧ AVR W' (R ++ S.map (Res.sh R.length)) w' (r.sh R.length) v) ∧ Sep w' W' (R ++ S.map (Res.sh R.length)) ∧ Trans w W R w' W' (R ++ S.map (Res.sh R.length)) ∧ Below w.heap.size w w' := by
 intro w W vals hv hs
 have hv0 : AVs W0 [] w (args.map (E.lend R)) vals := by
  refine ⟨by simp [hv.1], fun i x v hx hu => ?_⟩
  rw [List.getElem?_map] at hx
  cases hy : args[i]? with
  | none => rw [hy] at hx; cases hx
  | some y =>
   rw [hy] at hx
   obtain rfl := Option.some.inj hx
   exact (hv.2 i y v hy hu).lend hs
 refine (h w W0 vals hv0 (Sep.none w)).mono ?_
 rintro e w' ⟨r, S, V, k1, ⟨v, rfl, k2⟩, k3, k4⟩
 obtain ⟨q1, q2⟩ := hq r S k1
 have hb : Below w.heap.size w w' := ⟨k4.os, k4.tape, k4.output, k4.size, fun b hb => k4.frame b ⟨hb, fun _ h => h⟩⟩
 have hnew : ∀ i b, V.fs i b → w.heap.size ≤ b := fun i b hi => by
  rcases k4.own i b hi with ⟨j, hj⟩ | hj
  ·exact hj.elim
  ·exact hj
 have hlt : ∀ i b, V.fs i b → i < S.length := fun i b hi => by
  rcases Nat.lt_or_ge i S.length with h' | h'
  ·exact h'
  ·exact absurd hi (k3.out i h' b)
 have tr : Trans w W R w' (Wit.join R.length W V) (R ++ S.map (Res.sh R.length)) := by
  refine ⟨k4.os, k4.tape, k4.output, k4.size, fun b hb' => hb.block b hb'.1, fun i b hi => ?_, fun i => ?_⟩
  ·simp only [Wit.join] at hi
   split at hi
   ·exact .inl ⟨i, hi⟩
   ·exact .inr (hnew _ b hi)
  ·rcases Nat.lt_or_ge i R.length with hi | hi
   ·rw [List.getElem?_append_left hi]
    have : (Wit.join R.length W V).hs i = W.hs i := by simp [Wit.join, hi]
    rw [this]; exact Goes.refl _ _
   ·rw [List.getElem?_eq_none hi]; exact trivial
 refine ⟨r, S, Wit.join R.length W V, k1, ⟨v, rfl, k2.sh q1⟩, ?_, tr, hb⟩
 refine ⟨fun i r hr => ?_, fun i hi b hb' => ?_, fun i hi b hb' => ?_, fun i j b hi hj => ?_, fun i b hi => ?_⟩
 ·rcases Nat.lt_or_ge i R.length with hi | hi
  ·rw [List.getElem?_append_left hi] at hr
   have e1 : (Wit.join R.length W V).hs i = W.hs i := by simp [Wit.join, hi]
   have e2 : (Wit.join R.length W V).fs i = W.fs i := by funext b; simp [Wit.join, hi]
   rw [e1, e2]
   exact (hs.res i r hr).next tr fun b hb' => hb.block b (hs.lt i b hb')
  ·have hr' := hr
   rw [show i = R.length + (i - R.length) by omega] at hr'
   obtain ⟨r0, e1, rfl⟩ := join_back hr'
   have e2 : (Wit.join R.length W V).hs i = V.hs (i - R.length) := by simp [Wit.join, show ¬ i < R.length by omega]
   have e3 : (Wit.join R.length W V).fs i = V.fs (i - R.length) := by funext b; simp [Wit.join, show ¬ i < R.length by omega]
   rw [e2, e3]
   have hr0 := k3.res _ _ e1
   cases r0 with
   | box cs =>
    obtain ⟨b, arr, e, f1, f2, f3, f4⟩ := hr0
    have hown : Res.own (.box cs) = true := List.all_eq_true.1 q2 _ (List.mem_of_getElem? e1)
    exact ⟨b, arr, e, f1, f2, f3, f4.sh hown⟩
   | row e k rows => exact hr0
   | gone => trivial
   | pin x u =>
    obtain ⟨f1, f2⟩ := hr0
    have hown : Res.own (.pin x u) = true := List.all_eq_true.1 q2 _ (List.mem_of_getElem? e1)
    exact ⟨f1, f2.sh (by simpa [AC.own.owns, Res.own] using hown)⟩
 ·simp only [Wit.join] at hb'
  simp only [List.length_append, List.length_map] at hi
  rw [if_neg (by omega)] at hb'
  exact k3.out _ (by omega) b hb'
 ·simp only [Wit.join] at hb'
  rcases Nat.lt_or_ge i R.length with h' | h'
  ·rw [List.getElem?_append_left h'] at hi
   rw [if_pos h'] at hb'
   exact hs.gone i hi b hb'
  ·rw [if_neg (by omega)] at hb'
   rw [show i = R.length + (i - R.length) by omega] at hi
   obtain ⟨r0, e1, e2⟩ := join_back hi
   have : r0 = .gone := by cases r0 <;> first | rfl | cases e2
   rw [this] at e1
   exact k3.gone _ e1 b hb'
 ·simp only [Wit.join] at hi hj
  split at hi <;> split at hj
  ·exact hs.apart i j b hi hj
  ·exact absurd (hs.lt i b hi) (by have := hnew _ b hj; omega)
  ·exact absurd (hs.lt j b hj) (by have := hnew _ b hi; omega)
  ·have := k3.apart _ _ b hi hj; omega
 ·simp only [Wit.join] at hi
  split at hi
  ·exact Nat.lt_of_lt_of_le (hs.lt i b hi) k4.size
  ·exact k3.lt _ b hi

/-! ### 3. A region that draws its order -/
section
variable {P : Program} {N : Nat} {ops : Array Oper} {s : Slots} {R : List Res} {K : Slots → List Res → Prop} {fuel : Nat} {listed listed' : Array Bool} {fr : Bool}

theorem Now.draw {a : Act} {w : World} {W : Wit} (hn : Now N s R a w W) : Now N s R a { w with drawn := w.drawn + 1 } W ∧ Trans w W R { w with drawn := w.drawn + 1 } W R := by
 have tr : Trans w W R { w with drawn := w.drawn + 1 } W R := ⟨rfl, rfl, rfl, Nat.le_refl _, fun _ _ => rfl, fun i b h => .inl ⟨i, h⟩, fun i => Goes.refl _ _⟩
 exact ⟨hn.next tr ⟨fun i r hr => (hn.sep.res i r hr).next tr fun _ _ => rfl, hn.sep.out, hn.sep.gone, hn.sep.apart, hn.sep.lt⟩, tr⟩

/-- An operation that may make memory and turns nothing that stood. -/
def Heavy (P : Program) (N : Nat) (o : Oper) (s : Slots) (R : List Res) (K : Slots → List Res → Prop) : Prop :=
 ∀ Q a w W, Now N s R a w W → o.wp P a w (fun a' w' => Below w.heap.size w w' ∧ Reach N w W R K a' w') Q

theorem Heavy.op {o : Oper} (h : Heavy P N o s R K) : EOp P N o s R K := fun Q a w W hn => Oper.wp_mono (fun a' w' h' => h'.2) (h Q a w W hn)

/-- A callee that only reads. -/
theorem H_pcall {o : Oper} {x : Operand} {args : Array Operand} {ats : Array TypeId} {f : FuncId} {Q : AV → List Res → Prop} (ho : o.op = .call { callee := .value x, args := args, argTypes := ats }) (hd : ∀ d, o.dst = some d → d < N) (hx : ev s x = .c (.fn f [])) (hf : callable P f = true)
  (h : EFn P f ((args.toList.map (ev s)).map (E.lend R)) [] Q) (hq : ∀ r S, Q r S → r.own = true ∧ S.all Res.own = true)
  (hk : ∀ r S, Q r S → K (fill' s o.dst (r.sh R.length)) (R ++ S.map (Res.sh R.length))) : Heavy P N o s R K := by
 intro Q' a w W hn
 have hv := hn.ev x
 rw [hx] at hv
 obtain ⟨xs, e, h1⟩ := AR.fn_inv hv
 obtain rfl : xs = [] := by cases h1; rfl
 unfold Oper.wp
 have hr : (execOp a.eval o).run P w = .ok (.enter f (args.map a.eval)) w := by
  simp only [execOp, ho, resolve, e, Deferred.ofValue, Sem.run_bind, Sem.run_pure, Result.andThen_ok, invoke]
  simpa using run_callFunc hf _ w
 rw [hr, Oper.upon_enter]
 have hav : AVs W R w (args.toList.map (ev s)) (args.toList.map a.eval) := by
  refine ⟨by simp, fun i y v hy hu => ?_⟩
  rw [List.getElem?_map] at hy hu
  cases hi : args.toList[i]? with
  | none => rw [hi] at hy; cases hy
  | some z =>
   rw [hi] at hy hu
   obtain rfl : ev s z = y := by simpa using hy
   obtain rfl : a.eval z = v := by simpa using hu
   exact hn.ev z
 have hc := EFn.frame h hq w W _ hav hn.sep
 have hh : (args.toList.map a.eval).toArray = args.map a.eval := by
  apply Array.ext'; simp
 rw [hh] at hc
 refine hc.mono ?_
 rintro e' w' ⟨r, S, W', k1, ⟨v, rfl, k2⟩, k3, k4, k5⟩
 exact ⟨k5, _, _, W', hk r S k1, (hn.next k4 k3).fill' hd k2, k4⟩

end
end Go.Proofs.YthnadkagchbhbaaGreat.E
