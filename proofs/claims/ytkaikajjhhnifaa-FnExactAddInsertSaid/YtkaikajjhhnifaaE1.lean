/- Words of the session's own: a symbolic heap over the machine. Trees that memory reads as, resources of a call's own, and how they stay while the world goes on. -/
import Derived.Below
import Derived.OwnWalk
import Derived.Laws.MakeOwn
import Derived.Laws.OwnMore
import Derived.Deep.OwnRows
import Derived.WalkKit
import Derived.KernelRfl
namespace Go.Proofs.Ytkaikajjhhnifaa.E
open Go Go.RowKit
set_option linter.unusedVariables false
set_option linter.unusedSimpArgs false

/-! ### 1. Trees -/
/-- What a cell reads as: a scalar, or a slice of rows of cells. -/
inductive T where
  | sc (v : Value)
  | sl (rows : List (List T))

/-- Cells that read as trees, through blocks of O alone. -/
inductive Rd (w : World) (O : Nat → Prop) : List T → List Value → Prop
  | nil : Rd w O [] []
  | sc {v : Value} {ts : List T} {vs : List Value} : v.oneCell' = true → Rd w O ts vs → Rd w O (.sc v :: ts) (v :: vs)
  | sl {rows : List (List T)} {a : Option Addr} {c : Nat} {inner : List Value} {ts : List T} {vs : List Value} (k : Nat) : rows.length ≤ c ∧ c ≤ maxLen → 0 < k → (∀ r ∈ rows, r.length = k) →
      (0 < rows.length → ∃ b o, a = some ⟨b, o, none⟩ ∧ O b ∧ ∀ j u, inner[j]? = some u → w.cell? ⟨b, o + j, none⟩ = some u) →
      Rd w O rows.flatten inner → Rd w O ts vs → Rd w O (.sl rows :: ts) (.slice a rows.length c :: vs)

theorem Rd.mono {w w' : World} {O O' : Nat → Prop} (hO : ∀ b, O b → O' b ∧ w'.heap[b]? = w.heap[b]?) {ts : List T} {vs : List Value} (h : Rd w O ts vs) : Rd w' O' ts vs := by
  induction h with
  | nil => exact .nil
  | sc h1 _ ih => exact .sc h1 ih
  | sl k h1 h2 h3 h4 _ _ ih1 ih2 =>
    refine .sl k h1 h2 h3 (fun h0 => ?_) ih1 ih2
    obtain ⟨b, o, e, hb, hc⟩ := h4 h0
    exact ⟨b, o, e, (hO b hb).1, fun j u hj => by rw [World.cell?_of_block (w := w) (a := ⟨b, o + j, none⟩) (hO b hb).2]; exact hc j u hj⟩

theorem Rd.length {w : World} {O : Nat → Prop} {ts : List T} {vs : List Value} (h : Rd w O ts vs) : ts.length = vs.length := by
  induction h with
  | nil => rfl
  | sc _ _ ih => simp [ih]
  | sl _ _ _ _ _ _ _ _ ih2 => simp [ih2]

theorem Rd.one {w : World} {O : Nat → Prop} {ts : List T} {vs : List Value} (h : Rd w O ts vs) : ∀ u ∈ vs, u.oneCell' = true := by
  induction h with
  | nil => simp
  | sc h1 _ ih => intro u hu; rcases List.mem_cons.1 hu with rfl | hu; exact h1; exact ih u hu
  | sl _ _ _ _ _ _ _ _ ih2 => intro u hu; rcases List.mem_cons.1 hu with rfl | hu; rfl; exact ih2 u hu

theorem Rd.append {w : World} {O : Nat → Prop} {ts : List T} {vs : List Value} {us : List T} {xs : List Value} (h : Rd w O ts vs) (h' : Rd w O us xs) : Rd w O (ts ++ us) (vs ++ xs) := by
  induction h with
  | nil => exact h'
  | sc h1 _ ih => exact .sc h1 ih
  | sl k h1 h2 h3 h4 h5 _ _ ih2 => exact .sl k h1 h2 h3 h4 h5 ih2

theorem Rd.drop {w : World} {O : Nat → Prop} {ts : List T} {vs : List Value} (h : Rd w O ts vs) : ∀ n, Rd w O (ts.drop n) (vs.drop n) := by
  induction h with
  | nil => intro n; simpa using .nil
  | sc h1 h2 ih => intro n; cases n; exact .sc h1 h2; exact ih _
  | sl k h1 h2 h3 h4 h5 h6 _ ih2 => intro n; cases n; exact .sl k h1 h2 h3 h4 h5 h6; exact ih2 _

theorem Rd.take {w : World} {O : Nat → Prop} {ts : List T} {vs : List Value} (h : Rd w O ts vs) : ∀ n, Rd w O (ts.take n) (vs.take n) := by
  induction h with
  | nil => intro n; simpa using .nil
  | sc h1 h2 ih => intro n; cases n; exact .nil; exact .sc h1 (ih _)
  | sl k h1 h2 h3 h4 h5 h6 _ ih2 => intro n; cases n; exact .nil; exact .sl k h1 h2 h3 h4 h5 (ih2 _)

/-- Cells of the call's own that read as trees; F: the blocks below them. -/
inductive Ow (w : World) : List T → List Value → (Nat → Prop) → Prop
  | nil : Ow w [] [] (fun _ => False)
  | sc {v : Value} {ts : List T} {vs : List Value} {F : Nat → Prop} : v.oneCell' = true → Ow w ts vs F → Ow w (.sc v :: ts) (v :: vs) F
  | sl {rows : List (List T)} {v : Value} {cells : List Value} {ts : List T} {vs : List Value} {F G : Nat → Prop} (e k : Nat) : 0 < k → (∀ r ∈ rows, r.length = k) →
      w.ownsRow 0 e k v rows.length cells → Ow w rows.flatten cells F → Ow w ts vs G → (∀ b, v.ownBlock = some b → ¬ F b ∧ ¬ G b) → (∀ b, F b → ¬ G b) →
      Ow w (.sl rows :: ts) (v :: vs) (fun b => v.ownBlock = some b ∨ F b ∨ G b)

theorem ownsRow_congr {w w' : World} {base e k : Nat} {v : Value} {n : Nat} {xs : List Value} (h : w.ownsRow base e k v n xs) (hb : ∀ b, v.ownBlock = some b → w'.heap[b]? = w.heap[b]?) : w'.ownsRow base e k v n xs := by
  obtain ⟨h1, h2⟩ := h
  refine ⟨h1, ?_⟩
  rcases h2 with h2 | ⟨g, cap, cur, rfl, hg, hh, r⟩
  · exact .inl h2
  · exact .inr ⟨g, cap, cur, rfl, hg, by rw [hb g rfl]; exact hh, r⟩

theorem Ow.mono {w w' : World} {ts : List T} {vs : List Value} {F : Nat → Prop} (h : Ow w ts vs F) (hF : ∀ b, F b → w'.heap[b]? = w.heap[b]?) : Ow w' ts vs F := by
  induction h with
  | nil => exact .nil
  | sc h1 _ ih => exact .sc h1 (ih hF)
  | sl e k h1 h2 h3 _ _ h6 h7 ih1 ih2 =>
    exact .sl e k h1 h2 (ownsRow_congr h3 fun b hb => hF b (.inl hb)) (ih1 fun b hb => hF b (.inr (.inl hb))) (ih2 fun b hb => hF b (.inr (.inr hb))) h6 h7

theorem Ow.length {w : World} {ts : List T} {vs : List Value} {F : Nat → Prop} (h : Ow w ts vs F) : ts.length = vs.length := by
  induction h with
  | nil => rfl
  | sc _ _ ih => simp [ih]
  | sl _ _ _ _ _ _ _ _ _ _ ih2 => simp [ih2]

theorem Ow.lt {w : World} {ts : List T} {vs : List Value} {F : Nat → Prop} (h : Ow w ts vs F) : ∀ b, F b → b < w.heap.size := by
  induction h with
  | nil => intro b hb; exact hb.elim
  | sc _ _ ih => exact ih
  | sl e k h1 h2 h3 _ _ h6 h7 ih1 ih2 =>
    intro b hb
    rcases hb with hb | hb | hb
    · exact (h3.lt b hb).2
    · exact ih1 b hb
    · exact ih2 b hb

theorem Ow.one {w : World} {ts : List T} {vs : List Value} {F : Nat → Prop} (h : Ow w ts vs F) : ∀ u ∈ vs, u.oneCell' = true := by
  induction h with
  | nil => simp
  | sc h1 _ ih => intro u hu; rcases List.mem_cons.1 hu with rfl | hu; exact h1; exact ih u hu
  | sl e k h1 h2 h3 _ _ h6 h7 ih1 ih2 =>
    intro u hu
    rcases List.mem_cons.1 hu with rfl | hu
    · rcases h3.2 with ⟨rfl, _⟩ | ⟨g, cap, cur, rfl, _⟩ <;> rfl
    · exact ih2 u hu

/-- A row of one's own, its cells known: as the reader sees it. -/
theorem ownsRow_reads {w : World} {e k : Nat} {v : Value} {n : Nat} {cells : List Value} (h : w.ownsRow 0 e k v n cells) :
    ∃ a c, v = .slice a n c ∧ n ≤ c ∧ c ≤ maxLen ∧ (∀ b o s, a = some ⟨b, o, s⟩ → v.ownBlock = some b) ∧ (0 < n → ∃ b, a = some ⟨b, 0, none⟩ ∧ v.ownBlock = some b ∧ ∀ j u, cells[j]? = some u → w.cell? ⟨b, 0 + j, none⟩ = some u) := by
  obtain ⟨h1, h2⟩ := h
  rcases h2 with ⟨rfl, rfl⟩ | ⟨g, cap, cur, rfl, _, hh, hn, hm, hs, ht⟩
  · exact ⟨none, 0, rfl, Nat.le_refl _, Nat.zero_le _, by simp, fun h0 => absurd h0 (Nat.lt_irrefl 0)⟩
  · refine ⟨some ⟨g, 0, none⟩, cap, rfl, hn, hm, fun b o s hb => by cases hb; rfl, fun _ => ⟨g, rfl, rfl, fun j u hj => ?_⟩⟩
    have hj2 : cur[j]? = some u := by
      rw [← ht, List.getElem?_take] at hj
      split at hj
      · simpa using hj
      · cases hj
    simp [World.cell?, hh, hj2]

theorem Ow.rd {w : World} {O : Nat → Prop} {ts : List T} {vs : List Value} {F : Nat → Prop} (h : Ow w ts vs F) (hO : ∀ b, F b → O b) : Rd w O ts vs := by
  induction h with
  | nil => exact .nil
  | sc h1 _ ih => exact .sc h1 (ih hO)
  | sl e k h1 h2 h3 _ _ h6 h7 ih1 ih2 =>
    obtain ⟨a, c, rfl, hn, hm, _, h0⟩ := ownsRow_reads h3
    refine .sl k ⟨hn, hm⟩ h1 h2 (fun hp => ?_) (ih1 fun b hb => hO b (.inr (.inl hb))) (ih2 fun b hb => hO b (.inr (.inr hb)))
    obtain ⟨b, rfl, hb, hc⟩ := h0 hp
    exact ⟨b, 0, rfl, hO b (.inl hb), hc⟩

theorem Ow.append {w : World} {ts : List T} {vs : List Value} {F : Nat → Prop} (h : Ow w ts vs F) : ∀ {us : List T} {xs : List Value} {G : Nat → Prop}, Ow w us xs G → (∀ b, F b → ¬ G b) →
    ∃ H, Ow w (ts ++ us) (vs ++ xs) H ∧ ∀ b, H b ↔ F b ∨ G b := by
  induction h with
  | nil => intro us xs G h' _; exact ⟨G, h', fun b => by simp⟩
  | sc h1 _ ih =>
    intro us xs G h' hd
    obtain ⟨H, hH, he⟩ := ih h' hd
    exact ⟨H, .sc h1 hH, he⟩
  | sl e k h1 h2 h3 h4 _ h6 h7 ih1 ih2 =>
    intro us xs G h' hd
    obtain ⟨H, hH, he⟩ := ih2 h' fun b hb => hd b (.inr (.inr hb))
    refine ⟨_, .sl e k h1 h2 h3 h4 hH (fun b hb => ⟨(h6 b hb).1, fun hn => ?_⟩) (fun b hb hn => ?_), fun b => ?_⟩
    · rcases (he b).1 hn with hn | hn
      · exact (h6 b hb).2 hn
      · exact hd b (.inl hb) hn
    · rcases (he b).1 hn with hn | hn
      · exact h7 b hb hn
      · exact hd b (.inr (.inl hb)) hn
    · rw [he b]
      constructor
      · rintro (h | h | h | h)
        · exact .inl (.inl h)
        · exact .inl (.inr (.inl h))
        · exact .inl (.inr (.inr h))
        · exact .inr h
      · rintro ((h | h | h) | h)
        · exact .inl h
        · exact .inr (.inl h)
        · exact .inr (.inr (.inl h))
        · exact .inr (.inr (.inr h))

/-! ### 2. What a slot holds; resources; witnesses -/
inductive AC where
  | sc (v : Value)
  | ro (rows : List (List T))
  | sl (i off len tot : Nat)
  | bp (i off : Nat)
  | ep (i j off tot : Nat)
  | rp (cells : List T)
  | fn (f : FuncId) (caps : List AC)
  | any

inductive AV where
  | c (x : AC)
  | agg (xs : List AC)
  | tup (xs : List (Bool × List AC))
  | any

inductive Res where
  | box (cs : List AC)
  | row (e k : Nat) (rows : List (List T))
  | gone

structure Wit where
  hs : Nat → Value
  fs : Nat → Nat → Prop

def Wit.out (W : Wit) (w : World) (b : Nat) : Prop := b < w.heap.size ∧ ∀ i, ¬ W.fs i b

def slAt (hv v : Value) (k off len : Nat) : Prop :=
  ∃ a n c, hv = .slice a n c ∧ off + len ≤ n ∧ ((v = .slice (a.map fun b => ⟨b.block, off * k, none⟩) len (c - off)) ∨ (len = 0 ∧ 0 < off ∧ ∃ a' c', v = .slice a' 0 c' ∧ c' ≤ maxLen))

inductive AR (W : Wit) (R : List Res) (w : World) : List AC → List Value → Prop
  | nil : AR W R w [] []
  | sc {v : Value} {cs : List AC} {vs : List Value} : v.oneCell' = true → AR W R w cs vs → AR W R w (.sc v :: cs) (v :: vs)
  | ro {rows : List (List T)} {v : Value} {cs : List AC} {vs : List Value} : Rd w (W.out w) [.sl rows] [v] → AR W R w cs vs → AR W R w (.ro rows :: cs) (v :: vs)
  | sl {i off len tot : Nat} {v : Value} {cs : List AC} {vs : List Value} : v.oneCell' = true → i < R.length → (∀ e k rows, R[i]? = some (.row e k rows) → tot ≤ rows.length ∧ (rows.length = tot → slAt (W.hs i) v k off len)) → AR W R w cs vs → AR W R w (.sl i off len tot :: cs) (v :: vs)
  | bp {i off : Nat} {v : Value} {cs : List AC} {vs : List Value} : v.oneCell' = true → i < R.length → (∀ xs, R[i]? = some (.box xs) → ∃ b, W.hs i = .pointer (some ⟨b, 0, none⟩) ∧ v = .pointer (some ⟨b, off, none⟩)) → AR W R w cs vs → AR W R w (.bp i off :: cs) (v :: vs)
  | ep {i j off tot : Nat} {v : Value} {cs : List AC} {vs : List Value} : v.oneCell' = true → i < R.length → (∀ e k rows, R[i]? = some (.row e k rows) → tot ≤ rows.length ∧ (rows.length = tot → ∃ b n c, W.hs i = .slice (some ⟨b, 0, none⟩) n c ∧ v = .pointer (some ⟨b, j * k + off, none⟩))) → AR W R w cs vs → AR W R w (.ep i j off tot :: cs) (v :: vs)
  | rp {ts : List T} {v : Value} {cs : List AC} {vs : List Value} (b o : Nat) (inner : List Value) : v = .pointer (some ⟨b, o, none⟩) → W.out w b → Rd w (W.out w) ts inner → (∀ j u, inner[j]? = some u → w.cell? ⟨b, o + j, none⟩ = some u) → AR W R w cs vs → AR W R w (.rp ts :: cs) (v :: vs)
  | fn {f : FuncId} {caps : List AC} {xs : List Value} {cs : List AC} {vs : List Value} : AR W R w caps xs → AR W R w cs vs → AR W R w (.fn f caps :: cs) (.func (.func f) #[] xs.toArray :: vs)
  | any {v : Value} {cs : List AC} {vs : List Value} : v.oneCell' = true → AR W R w cs vs → AR W R w (.any :: cs) (v :: vs)

/-- One part of several results. -/
def CR (W : Wit) (R : List Res) (w : World) (x : Bool × List AC) (u : Value) : Prop :=
  ∃ vs : List Value, (if x.1 = true then u = .agg vs.toArray else vs = [u]) ∧ AR W R w x.2 vs

def AVR (W : Wit) (R : List Res) (w : World) : AV → Value → Prop
  | .c x, v => AR W R w [x] [v]
  | .agg xs, v => ∃ vs : List Value, v = .agg vs.toArray ∧ AR W R w xs vs
  | .tup xs, v => ∃ us : List Value, v = .tuple us.toArray ∧ us.length = xs.length ∧ ∀ (i : Nat) (x : Bool × List AC) (u : Value), xs[i]? = some x → us[i]? = some u → CR W R w x u
  | .any, _ => True

def ResRel (w : World) (W : Wit) (R : List Res) (v : Value) (F : Nat → Prop) : Res → Prop
  | .box cs => ∃ b arr e, v = .pointer (some ⟨b, 0, none⟩) ∧ (∀ x, F x ↔ x = b) ∧ w.heap[b]? = some (.cells arr e (0, 0)) ∧ AR W R w cs arr.toList
  | .row e k rows => 0 < k ∧ (∀ r ∈ rows, r.length = k) ∧ ∃ cells G, w.ownsRow 0 e k v rows.length cells ∧ Ow w rows.flatten cells G ∧ (∀ b, v.ownBlock = some b → ¬ G b) ∧ ∀ b, F b ↔ v.ownBlock = some b ∨ G b
  | .gone => True

structure Sep (w : World) (W : Wit) (R : List Res) : Prop where
  res : ∀ i r, R[i]? = some r → ResRel w W R (W.hs i) (W.fs i) r
  out : ∀ i, R.length ≤ i → ∀ b, ¬ W.fs i b
  gone : ∀ i, R[i]? = some .gone → ∀ b, ¬ W.fs i b
  apart : ∀ i j b, W.fs i b → W.fs j b → i = j
  lt : ∀ i b, W.fs i b → b < w.heap.size

/-- How a resource may go on. -/
def Goes (v v' : Value) : Option Res → Option Res → Prop
  | none, _ => True
  | some (.box _), some (.box _) => v' = v
  | some (.row e k a), some (.row e' k' b) => e = e' ∧ k = k' ∧ a.length ≤ b.length ∧ (a.length = b.length → v' = v)
  | some _, some .gone => True
  | some _, _ => False

structure Trans (w : World) (W : Wit) (R : List Res) (w' : World) (W' : Wit) (R' : List Res) : Prop where
  os : w'.os = w.os
  tape : w'.tape = w.tape
  output : w'.output = w.output
  size : w.heap.size ≤ w'.heap.size
  frame : ∀ b, W.out w b → w'.heap[b]? = w.heap[b]?
  own : ∀ i b, W'.fs i b → (∃ j, W.fs j b) ∨ w.heap.size ≤ b
  goes : ∀ i, Goes (W.hs i) (W'.hs i) R[i]? R'[i]?

theorem Goes.refl (v : Value) : ∀ r, Goes v v r r
  | none => trivial
  | some (.box _) => rfl
  | some (.row _ _ _) => ⟨rfl, rfl, Nat.le_refl _, fun _ => rfl⟩
  | some .gone => trivial

theorem Trans.refl (w : World) (W : Wit) (R : List Res) : Trans w W R w W R :=
  ⟨rfl, rfl, rfl, Nat.le_refl _, fun _ _ => rfl, fun i b h => .inl ⟨i, h⟩, fun i => Goes.refl _ _⟩

theorem Goes.trans {v v' v'' : Value} : ∀ {a b c : Option Res}, Goes v v' a b → Goes v' v'' b c → Goes v v'' a c
  | none, _, _, _, _ => trivial
  | some (.box _), some (.box _), some (.box _), h, h' => Eq.trans h' h
  | some (.box _), some (.box _), some .gone, _, _ => trivial
  | some (.box _), some .gone, some .gone, _, _ => trivial
  | some (.row _ _ _), some (.row _ _ _), some (.row _ _ _), ⟨h1, h2, h3, h4⟩, ⟨k1, k2, k3, k4⟩ => ⟨h1.trans k1, h2.trans k2, Nat.le_trans h3 k3, fun h => by
      have e1 := h4 (by omega); have e2 := k4 (by omega); exact e2.trans e1⟩
  | some (.row _ _ _), some (.row _ _ _), some .gone, _, _ => trivial
  | some (.row _ _ _), some .gone, some .gone, _, _ => trivial
  | some .gone, some .gone, some .gone, _, _ => trivial

theorem Wit.out_next {w w' : World} {W W' : Wit} {R R' : List Res} (h : Trans w W R w' W' R') {b : Nat} (hb : W.out w b) : W'.out w' b :=
  ⟨Nat.lt_of_lt_of_le hb.1 h.size, fun i hi => by
    rcases h.own i b hi with ⟨j, hj⟩ | hj
    · exact hb.2 j hj
    · exact absurd hb.1 (by omega)⟩

theorem Trans.trans {w w' w'' : World} {W W' W'' : Wit} {R R' R'' : List Res} (h : Trans w W R w' W' R') (k : Trans w' W' R' w'' W'' R'') : Trans w W R w'' W'' R'' :=
  ⟨k.os.trans h.os, k.tape.trans h.tape, k.output.trans h.output, Nat.le_trans h.size k.size,
    fun b hb => (k.frame b (Wit.out_next h hb)).trans (h.frame b hb),
    fun i b hb => by
      rcases k.own i b hb with ⟨j, hj⟩ | hj
      · exact h.own j b hj
      · exact .inr (Nat.le_trans h.size hj),
    fun i => (h.goes i).trans (k.goes i)⟩

theorem Trans.rd {w w' : World} {W W' : Wit} {R R' : List Res} (h : Trans w W R w' W' R') {ts : List T} {vs : List Value} (hr : Rd w (W.out w) ts vs) : Rd w' (W'.out w') ts vs :=
  hr.mono fun b hb => ⟨Wit.out_next h hb, h.frame b hb⟩

theorem Trans.len {w w' : World} {W W' : Wit} {R R' : List Res} (h : Trans w W R w' W' R') : R.length ≤ R'.length := by
  rcases Nat.lt_or_ge R'.length R.length with hl | hl
  · have := h.goes R'.length
    rw [List.getElem?_eq_getElem hl, List.getElem?_eq_none (Nat.le_refl _)] at this
    cases hr : R[R'.length] <;> rw [hr] at this <;> exact this.elim
  · exact hl

/-- A row's own facts behind a step. -/
theorem Trans.row {w w' : World} {W W' : Wit} {R R' : List Res} (h : Trans w W R w' W' R') {i : Nat} (hi : i < R.length) {e k tot : Nat} {rows : List (List T)} (hr : R'[i]? = some (.row e k rows))
    {p : Value → Nat → Prop} (h3 : ∀ e k rows, R[i]? = some (.row e k rows) → tot ≤ rows.length ∧ (rows.length = tot → p (W.hs i) k)) : tot ≤ rows.length ∧ (rows.length = tot → p (W'.hs i) k) := by
  have hg := h.goes i
  rw [hr, List.getElem?_eq_getElem hi] at hg
  cases hq : R[i] with
  | box xs => rw [hq] at hg; exact hg.elim
  | gone => rw [hq] at hg; exact hg.elim
  | row e' k' rows' =>
    rw [hq] at hg
    obtain ⟨rfl, rfl, hle, heq⟩ := hg
    obtain ⟨h4, h5⟩ := h3 e' k' rows' (by rw [List.getElem?_eq_getElem hi, hq])
    exact ⟨by omega, fun ht => by rw [heq (by omega)]; exact h5 (by omega)⟩

theorem Trans.box {w w' : World} {W W' : Wit} {R R' : List Res} (h : Trans w W R w' W' R') {i : Nat} (hi : i < R.length) {xs : List AC} (hr : R'[i]? = some (.box xs)) :
    ∃ ys, R[i]? = some (.box ys) ∧ W'.hs i = W.hs i := by
  have hg := h.goes i
  rw [hr, List.getElem?_eq_getElem hi] at hg
  cases hq : R[i] with
  | box ys => rw [hq] at hg; exact ⟨ys, by rw [List.getElem?_eq_getElem hi, hq], hg⟩
  | gone => rw [hq] at hg; exact hg.elim
  | row e' k' rows' => rw [hq] at hg; exact hg.elim

theorem AR.next {w w' : World} {W W' : Wit} {R R' : List Res} (h : Trans w W R w' W' R') {cs : List AC} {vs : List Value} (ha : AR W R w cs vs) : AR W' R' w' cs vs := by
  have hl := h.len
  induction ha with
  | nil => exact .nil
  | sc h1 _ ih => exact .sc h1 ih
  | ro h1 _ ih => exact .ro (h.rd h1) ih
  | sl h1 h2 h3 _ ih => exact .sl h1 (by omega) (fun e k rows hr => h.row (p := fun hv k => slAt hv _ k _ _) h2 hr h3) ih
  | bp h1 h2 h3 _ ih =>
    refine .bp h1 (by omega) (fun xs hr => ?_) ih
    obtain ⟨ys, hy, he⟩ := h.box h2 hr
    rw [he]; exact h3 ys hy
  | @ep i j off tot v cs vs h1 h2 h3 _ ih => exact .ep h1 (by omega) (fun e k rows hr => h.row (p := fun hv k => ∃ b n c, hv = .slice (some ⟨b, 0, none⟩) n c ∧ v = .pointer (some ⟨b, j * k + off, none⟩)) h2 hr h3) ih
  | rp b o inner h1 h2 h3 h4 _ ih => exact .rp b o inner h1 (Wit.out_next h h2) (h.rd h3) (fun j u hj => by rw [World.cell?_of_block (w := w) (a := ⟨b, o + j, none⟩) (h.frame b h2)]; exact h4 j u hj) ih
  | fn _ _ ih1 ih2 => exact .fn ih1 ih2
  | any h1 _ ih => exact .any h1 ih

theorem AR.length {W : Wit} {R : List Res} {w : World} {cs : List AC} {vs : List Value} (h : AR W R w cs vs) : cs.length = vs.length := by
  induction h <;> simp_all

theorem AR.one {W : Wit} {R : List Res} {w : World} {cs : List AC} {vs : List Value} (h : AR W R w cs vs) : ∀ u ∈ vs, u.oneCell' = true := by
  induction h with
  | nil => simp
  | any h1 _ ih => intro u hu; rcases List.mem_cons.1 hu with rfl | hu; exact h1; exact ih u hu
  | sc h1 _ ih => intro u hu; rcases List.mem_cons.1 hu with rfl | hu; exact h1; exact ih u hu
  | ro h1 _ ih => intro u hu; rcases List.mem_cons.1 hu with rfl | hu; exact h1.one _ (List.mem_cons_self ..); exact ih u hu
  | sl h1 _ _ _ ih => intro u hu; rcases List.mem_cons.1 hu with rfl | hu; exact h1; exact ih u hu
  | bp h1 _ _ _ ih => intro u hu; rcases List.mem_cons.1 hu with rfl | hu; exact h1; exact ih u hu
  | ep h1 _ _ _ ih => intro u hu; rcases List.mem_cons.1 hu with rfl | hu; exact h1; exact ih u hu
  | rp b o inner h1 _ _ _ _ ih => intro u hu; rcases List.mem_cons.1 hu with rfl | hu; subst h1; rfl; exact ih u hu
  | fn _ _ _ ih => intro u hu; rcases List.mem_cons.1 hu with rfl | hu; rfl; exact ih u hu

theorem AR.drop {W : Wit} {R : List Res} {w : World} : ∀ (n : Nat) {cs : List AC} {vs : List Value}, AR W R w cs vs → AR W R w (cs.drop n) (vs.drop n)
  | 0, _, _, h => by simpa using h
  | n + 1, _, _, h => by
    cases h with
    | nil => simpa using .nil
    | any _ h => simpa using AR.drop n h
    | sc _ h => simpa using AR.drop n h
    | ro _ h => simpa using AR.drop n h
    | sl _ _ _ h => simpa using AR.drop n h
    | bp _ _ _ h => simpa using AR.drop n h
    | ep _ _ _ h => simpa using AR.drop n h
    | rp _ _ _ _ _ _ _ h => simpa using AR.drop n h
    | fn _ h => simpa using AR.drop n h

theorem AR.take {W : Wit} {R : List Res} {w : World} : ∀ (n : Nat) {cs : List AC} {vs : List Value}, AR W R w cs vs → AR W R w (cs.take n) (vs.take n)
  | 0, _, _, h => by simpa using .nil
  | n + 1, _, _, h => by
    cases h with
    | nil => simpa using .nil
    | any h1 h => simpa using AR.any h1 (AR.take n h)
    | sc h1 h => simpa using AR.sc h1 (AR.take n h)
    | ro h1 h => simpa using AR.ro h1 (AR.take n h)
    | sl h1 h2 h3 h => simpa using AR.sl h1 h2 h3 (AR.take n h)
    | bp h1 h2 h3 h => simpa using AR.bp h1 h2 h3 (AR.take n h)
    | ep h1 h2 h3 h => simpa using AR.ep h1 h2 h3 (AR.take n h)
    | rp b o inner h1 h2 h3 h4 h => simpa using AR.rp b o inner h1 h2 h3 h4 (AR.take n h)
    | fn h1 h => simpa using AR.fn h1 (AR.take n h)

theorem AR.append {W : Wit} {R : List Res} {w : World} {cs : List AC} {vs : List Value} (h : AR W R w cs vs) {ds : List AC} {us : List Value} (h' : AR W R w ds us) : AR W R w (cs ++ ds) (vs ++ us) := by
  induction h with
  | nil => exact h'
  | any h1 _ ih => exact .any h1 ih
  | sc h1 _ ih => exact .sc h1 ih
  | ro h1 _ ih => exact .ro h1 ih
  | sl h1 h2 h3 _ ih => exact .sl h1 h2 h3 ih
  | bp h1 h2 h3 _ ih => exact .bp h1 h2 h3 ih
  | ep h1 h2 h3 _ ih => exact .ep h1 h2 h3 ih
  | rp b o inner h1 h2 h3 h4 _ ih => exact .rp b o inner h1 h2 h3 h4 ih
  | fn h1 _ _ ih2 => exact .fn h1 ih2

/-- A tree as a cell that is read alone. -/
def tc : T → AC
  | .sc v => .sc v
  | .sl rows => .ro rows
/-- A tree of one's own as a cell: what lies below is not looked at. -/
def tco : T → AC
  | .sc v => .sc v
  | .sl _ => .any

theorem Rd.ar_ {W : Wit} {R : List Res} {w : World} {O : Nat → Prop} {ts : List T} {vs : List Value} (h : Rd w O ts vs) (e : O = W.out w) : AR W R w (ts.map tc) vs := by
  induction h with
  | nil => exact .nil
  | sc h1 _ ih => exact .sc h1 ih
  | sl k h1 h2 h3 h4 h5 _ _ ih2 => subst e; exact .ro (.sl k h1 h2 h3 h4 h5 .nil) ih2

theorem Rd.ar {W : Wit} {R : List Res} {w : World} {ts : List T} {vs : List Value} (h : Rd w (W.out w) ts vs) : AR W R w (ts.map tc) vs := Rd.ar_ h rfl

theorem Ow.ar {W : Wit} {R : List Res} {w : World} {ts : List T} {vs : List Value} {F : Nat → Prop} (h : Ow w ts vs F) : AR W R w (ts.map tco) vs := by
  induction h with
  | nil => exact .nil
  | sc h1 _ ih => exact .sc h1 ih
  | sl e k h1 h2 h3 h4 h5 h6 h7 _ ih2 => exact .any ((Ow.sl e k h1 h2 h3 h4 h5 h6 h7).one _ (List.mem_cons_self ..)) ih2

theorem AVR.next {w w' : World} {W W' : Wit} {R R' : List Res} (h : Trans w W R w' W' R') {x : AV} {v : Value} (hx : AVR W R w x v) : AVR W' R' w' x v := by
  cases x with
  | c x => exact AR.next h hx
  | agg xs =>
    obtain ⟨vs, e, hx⟩ := hx
    exact ⟨vs, e, hx.next h⟩
  | tup xs =>
    obtain ⟨us, e, hl, hx⟩ := hx
    refine ⟨us, e, hl, fun i x u h1 h2 => ?_⟩
    obtain ⟨vs, e1, e2⟩ := hx i x u h1 h2
    exact ⟨vs, e1, e2.next h⟩
  | any => trivial

/-! ### 3. Steps -/
theorem ResRel.next {w w' : World} {W W' : Wit} {R R' : List Res} (h : Trans w W R w' W' R') {v : Value} {F : Nat → Prop} {r : Res} (hr : ResRel w W R v F r) (hF : ∀ b, F b → w'.heap[b]? = w.heap[b]?) : ResRel w' W' R' v F r := by
  cases r with
  | box cs =>
    obtain ⟨b, arr, e, h1, h2, h3, h4⟩ := hr
    exact ⟨b, arr, e, h1, h2, by rw [hF b ((h2 b).2 rfl)]; exact h3, h4.next h⟩
  | row e k rows =>
    obtain ⟨h1, h2, cells, G, h3, h4, h5, h6⟩ := hr
    exact ⟨h1, h2, cells, G, ownsRow_congr h3 fun b hb => hF b ((h6 b).2 (.inl hb)), h4.mono fun b hb => hF b ((h6 b).2 (.inr hb)), h5, h6⟩
  | gone => trivial

/-- One resource is turned, or a new one laid; the others stay. -/
theorem Sep.step {w w' : World} {W W' : Wit} {R R' : List Res} (hs : Sep w W R) (h : Trans w W R w' W' R') (i : Nat) (hlen : ∀ j, R.length ≤ j → j ≠ i → R'.length ≤ j)
    (hR : ∀ j, j ≠ i → j < R.length → R'[j]? = R[j]?) (hh : ∀ j, j ≠ i → W'.hs j = W.hs j) (hf : ∀ j, j ≠ i → ∀ b, W'.fs j b ↔ W.fs j b)
    (hF : ∀ j, j ≠ i → ∀ b, W.fs j b → w'.heap[b]? = w.heap[b]?) (hi : ∀ r, R'[i]? = some r → ResRel w' W' R' (W'.hs i) (W'.fs i) r)
    (hnew : ∀ b, W'.fs i b → W.fs i b ∨ w.heap.size ≤ b) (hlt : ∀ b, W'.fs i b → b < w'.heap.size) (hout : R'.length ≤ i → ∀ b, ¬ W'.fs i b) (hgone : R'[i]? = some .gone → ∀ b, ¬ W'.fs i b) : Sep w' W' R' := by
  have hff : ∀ j, j ≠ i → W'.fs j = W.fs j := fun j hj => funext fun b => propext (hf j hj b)
  refine ⟨fun j r hr => ?_, fun j hj b hb => ?_, fun j hj b hb => ?_, fun j k b hj hk => ?_, fun j b hb => ?_⟩
  · by_cases e : j = i
    · subst e; exact hi r hr
    · have hj : j < R.length := by
        rcases Nat.lt_or_ge j R.length with h' | h'
        · exact h'
        · rw [List.getElem?_eq_none (hlen j h' e)] at hr; cases hr
      rw [hh j e, hff j e]
      exact (hs.res j r (by rw [← hR j e hj]; exact hr)).next h (hF j e)
  · by_cases e : j = i
    · subst e; exact hout hj b hb
    · have : R.length ≤ j := by
        rcases Nat.lt_or_ge j R.length with h' | h'
        · have := hR j e h'
          rw [List.getElem?_eq_none hj, List.getElem?_eq_getElem h'] at this
          cases this
        · exact h'
      exact hs.out j this b ((hf j e b).1 hb)
  · by_cases e : j = i
    · subst e; exact hgone hj b hb
    · have hj' : j < R.length := by
        rcases Nat.lt_or_ge j R.length with h' | h'
        · exact h'
        · rw [List.getElem?_eq_none (hlen j h' e)] at hj; cases hj
      exact hs.gone j (by rw [← hR j e hj']; exact hj) b ((hf j e b).1 hb)
  · by_cases e1 : j = i
    · by_cases e2 : k = i
      · omega
      · subst e1
        have hk' := (hf k e2 b).1 hk
        rcases hnew b hj with h1 | h1
        · exact hs.apart j k b h1 hk'
        · exact absurd (hs.lt k b hk') (by omega)
    · by_cases e2 : k = i
      · subst e2
        have hj' := (hf j e1 b).1 hj
        rcases hnew b hk with h1 | h1
        · exact hs.apart j k b hj' h1
        · exact absurd (hs.lt j b hj') (by omega)
      · exact hs.apart j k b ((hf j e1 b).1 hj) ((hf k e2 b).1 hk)
  · by_cases e : j = i
    · subst e; exact hlt b hb
    · exact Nat.lt_of_lt_of_le (hs.lt j b ((hf j e b).1 hb)) h.size

end Go.Proofs.Ytkaikajjhhnifaa.E
