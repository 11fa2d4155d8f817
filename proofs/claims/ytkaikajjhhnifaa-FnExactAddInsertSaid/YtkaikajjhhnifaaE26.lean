/- Words of the session's own, twenty-sixth part: within a region that draws its order, calls that come one behind the other, and beside them things that are made by themselves, at whatever time. -/
import Derived.Test.YtkaikajjhhnifaaE25
namespace Go.Proofs.Ytkaikajjhhnifaa.E
open Go Go.RowKit
set_option linter.unusedVariables false
set_option linter.unusedSimpArgs false

structure MInv (P : Program) (N : Nat) (ops : Array Oper) (sB : Slots) (RB : List Res) (WB : Wit) (a0 : Act) (w0 : World) (L0 : Array Bool) (ed : List Nat) (l : List It) (dn : List Nat) (D : Slots) (U : List Res) (W : Wit) (listed : Array Bool) (a : Act) (w : World) : Prop where
  base : Now N sB RB a0 w0 WB
  now : Now N (D ++ sB) (RB ++ U) a w W
  ownD : ∀ p ∈ D, p.2.own = true
  ownU : U.all Res.own = true
  stab : ∀ i, i < RB.length → W.hs i = WB.hs i ∧ ∀ b, W.fs i b ↔ WB.fs i b
  fresh : ∀ i b, RB.length ≤ i → W.fs i b → w0.heap.size ≤ b
  below : Below w0.heap.size w0 w
  can : ∀ x ∈ l, ChOk P N ops sB RB x.c x.Q
  ok : ∀ x ∈ l, x.st.Ok x.c x.Q a w
  fp : ∀ x ∈ l, ∀ b, x.st.fp b → w0.heap.size ≤ b ∧ b < w.heap.size
  fpW : ∀ x ∈ l, ∀ b, x.st.fp b → ∀ i, ¬ W.fs i b
  apart : l.Pairwise Apart
  size : listed.size = L0.size
  list : ∀ k, listed.getD k false = true ↔ (L0.getD k false = true ∨ k ∈ dn ∨ ∃ x ∈ l, x.st.seen x.c k)
  closed : Closed .any ops listed
  same : ∀ t, t ∉ ed → a.tmps.getD t undef = a0.tmps.getD t undef
  any : ∀ x ∈ l, ∀ d ∈ x.c.dsts, E.get (D ++ sB) d = .any ∧ d ∈ ed
  er : ∀ t ∈ ed, E.get sB t = .any

theorem get_app_any {D sB : Slots} {d : Nat} (h : E.get sB d = .any) : ∀ {y : AV}, E.get (D ++ sB) d = y → y = .any ∨ ∃ p ∈ D, p.1 = d ∧ p.2 = y := by
  induction D with
  | nil => intro y hy; exact .inl (hy.symm.trans h)
  | cons q D ih =>
    intro y hy
    simp only [List.cons_append, E.get] at hy
    split at hy
    · rename_i e; exact .inr ⟨q, List.mem_cons_self .., e, hy⟩
    · rcases ih hy with h1 | ⟨p, h1, h2⟩
      · exact .inl h1
      · exact .inr ⟨p, List.mem_cons_of_mem _ h1, h2⟩

theorem get_app (D sB : Slots) (t : Nat) : (∃ p ∈ D, p.1 = t ∧ E.get (D ++ sB) t = p.2) ∨ E.get (D ++ sB) t = E.get sB t := by
  induction D with
  | nil => exact .inr rfl
  | cons q D ih =>
    by_cases e : q.1 = t
    · exact .inl ⟨q, List.mem_cons_self .., e, by simp [E.get, e]⟩
    · rcases ih with ⟨p, h1, h2, h3⟩ | h
      · exact .inl ⟨p, List.mem_cons_of_mem _ h1, h2, by simpa [E.get, e] using h3⟩
      · exact .inr (by simpa [E.get, e] using h)

section
variable {P : Program} {N : Nat} {ops : Array Oper} {sB : Slots} {RB : List Res} {WB : Wit} {a0 : Act} {w0 : World} {L0 : Array Bool} {ed : List Nat}

/-- What was known at the start is known now. -/
theorem MInv.start {l : List It} {dn : List Nat} {D : Slots} {U : List Res} {W : Wit} {listed : Array Bool} {a : Act} {w : World} (h : MInv P N ops sB RB WB a0 w0 L0 ed l dn D U W listed a w) : Now N sB RB a w WB := by
  have hs := h.base.sep
  obtain ⟨tr, sp⟩ := hs.stay h.below.os h.below.tape h.below.output h.below.size (fun b hb _ => h.below.block b hb) (fun i b hb => h.below.block b (hs.lt i b hb))
  refine ⟨h.now.size, h.now.defers, fun t => ?_, sp⟩
  by_cases e : t ∈ ed
  · rw [h.er t e]; exact AVR.any ..
  · rw [h.same t e]; exact (h.base.val t).next tr

/-- A chain beside goes on. -/
theorem MInv.float {l1 l2 : List It} {x : It} {st' : St} {dn : List Nat} {D : Slots} {U : List Res} {W : Wit} {listed : Array Bool} {a : Act} {w w' : World} {i d : Nat} {v : Value}
    (h : MInv P N ops sB RB WB a0 w0 L0 ed (l1 ++ x :: l2) dn D U W listed a w) (hi : i ∈ Region.ready .any ops listed) (hil : i < listed.size) (hd : d ∈ x.c.dsts) (hN : d < N) (hb : Below w.heap.size w w')
    (hok : st'.Ok x.c x.Q (a.put (some d) v) w') (hfp : ∀ b, st'.fp b → (x.st.fp b ∨ w.heap.size ≤ b) ∧ b < w'.heap.size) (hseen : ∀ k, st'.seen x.c k ↔ (x.st.seen x.c k ∨ k = i)) :
    MInv P N ops sB RB WB a0 w0 L0 ed (l1 ++ { x with st := st' } :: l2) dn D U W (listed.setIfInBounds i true) (a.put (some d) v) w' := by
  have hmem : ∀ y, y ∈ l1 ++ { x with st := st' } :: l2 → y = { x with st := st' } ∨ (y ∈ l1 ++ l2) := fun y hy => by
    simp only [List.mem_append, List.mem_cons] at hy ⊢
    rcases hy with hy | hy | hy
    · exact .inr (.inl hy)
    · exact .inl hy
    · exact .inr (.inr hy)
  have hin : ∀ y, y ∈ l1 ++ l2 → y ∈ l1 ++ x :: l2 := fun y hy => by
    simp only [List.mem_append, List.mem_cons] at hy ⊢
    rcases hy with hy | hy
    · exact .inl hy
    · exact .inr (.inr hy)
  have hx : x ∈ l1 ++ x :: l2 := by simp
  have hap := h.apart
  rw [List.pairwise_append, List.pairwise_cons] at hap
  have hoth : ∀ y, y ∈ l1 ++ l2 → (∀ d ∈ x.c.dsts, d ∉ y.c.dsts) ∧ ∀ b, x.st.fp b → ¬ y.st.fp b := fun y hy => by
    rcases List.mem_append.1 hy with hy | hy
    · have := hap.2.2 y hy x (List.mem_cons_self ..)
      exact ⟨fun d hd h' => this.2.1 d h' hd, fun b hb h' => this.2.2 b h' hb⟩
    · have := hap.2.1.1 y hy
      exact ⟨this.2.1, this.2.2⟩
  have hfx : ∀ b, x.st.fp b → w0.heap.size ≤ b := fun b hb => (h.fp x hx b hb).1
  obtain ⟨a1, a2⟩ := h.any x hx d hd
  obtain ⟨tr, sp⟩ := h.now.sep.stay hb.os hb.tape hb.output hb.size (fun b hb' _ => hb.block b hb') (fun i b hi => hb.block b (h.now.sep.lt i b hi))
  refine ⟨h.base, ?_, h.ownD, h.ownU, h.stab, h.fresh, h.below.trans (hb.mono h.below.size), fun y hy => ?_, fun y hy => ?_, fun y hy b hb' => ?_, fun y hy b hb' i hi' => ?_, ?_, by simp [h.size], fun k => ?_, h.closed.step hi, fun t ht => ?_, fun y hy => ?_, h.er⟩
  · refine ((h.now.next tr sp).put hN (y := .any) (AVR.any ..)).sub fun t => ?_
    by_cases e : d = t
    · subst e; exact .inl a1
    · exact .inr (by simp [E.get, e])
  · rcases hmem y hy with rfl | hy
    · exact h.can x hx
    · exact h.can y (hin y hy)
  · rcases hmem y hy with rfl | hy'
    · exact hok
    · have h0 := h.ok y (hin y hy')
      obtain ⟨g1, g2⟩ := hoth y hy'
      have hne : ∀ t, t ∈ y.c.dsts → d ≠ t := fun t ht' e => g1 d hd (e ▸ ht')
      have hst : ∀ b, y.st.fp b → w'.heap[b]? = w.heap[b]? := fun b hb' => hb.block b (h.fp y (hin y hy') b hb').2
      cases hs : y.st with
      | no => trivial
      | mid g =>
        rw [hs] at h0 hst
        obtain ⟨⟨j, t, e1, e2⟩, e3⟩ := h0
        exact ⟨⟨j, t, e1, by rw [put_getD (hne t (by simp [Chn.dsts, e1]))]; exact e2⟩, by rw [hst g rfl]; exact e3⟩
      | done r S V u =>
        rw [hs] at h0 hst
        obtain ⟨e1, e2, e3, e4, e5, e6⟩ := h0
        exact ⟨e1, e2, e3, e4.anyw e2, e5.anyw e3 hb.size (fun j b hj => hst b ⟨j, hj⟩), by rw [put_getD (hne y.c.dst (dst_mem _))]; exact e6⟩
  · rcases hmem y hy with rfl | hy'
    · obtain ⟨h1, h2⟩ := hfp b hb'
      exact ⟨by rcases h1 with h1 | h1; exact hfx b h1; exact Nat.le_trans h.below.size h1, h2⟩
    · have := h.fp y (hin y hy') b hb'
      exact ⟨this.1, Nat.lt_of_lt_of_le this.2 hb.size⟩
  · rcases hmem y hy with rfl | hy'
    · rcases (hfp b hb').1 with h1 | h1
      · exact h.fpW x hx b h1 i hi'
      · exact absurd (h.now.sep.lt i b hi') (by omega)
    · exact h.fpW y (hin y hy') b hb' i hi'
  · have hnew : ∀ y, y ∈ l1 ++ l2 → ∀ b, st'.fp b → ¬ y.st.fp b := fun y hy b h1 h2 => by
      rcases (hfp b h1).1 with h3 | h3
      · exact (hoth y hy).2 b h3 h2
      · exact absurd (h.fp y (hin y hy) b h2).2 (by omega)
    rw [List.pairwise_append, List.pairwise_cons]
    refine ⟨hap.1, ⟨fun y hy => ?_, hap.2.1.2⟩, fun y hy z hz' => ?_⟩
    · have := hap.2.1.1 y hy
      exact ⟨this.1, this.2.1, hnew y (by simp [hy])⟩
    · rcases List.mem_cons.1 hz' with rfl | hz'
      · have := hap.2.2 y hy x (List.mem_cons_self ..)
        exact ⟨this.1, this.2.1, fun b h1 h2 => hnew y (by simp [hy]) b h2 h1⟩
      · exact hap.2.2 y hy z (List.mem_cons_of_mem _ hz')
  · rw [getD_set hil, h.list k]
    constructor
    · rintro (rfl | h1 | h1 | ⟨y, hy, h1⟩)
      · exact .inr (.inr ⟨{ x with st := st' }, by simp, (hseen _).2 (.inr rfl)⟩)
      · exact .inl h1
      · exact .inr (.inl h1)
      · simp only [List.mem_append, List.mem_cons] at hy
        rcases hy with hy | rfl | hy
        · exact .inr (.inr ⟨y, by simp [hy], h1⟩)
        · exact .inr (.inr ⟨{ y with st := st' }, by simp, (hseen _).2 (.inl h1)⟩)
        · exact .inr (.inr ⟨y, by simp [hy], h1⟩)
    · rintro (h1 | h1 | ⟨y, hy, h1⟩)
      · exact .inr (.inl h1)
      · exact .inr (.inr (.inl h1))
      · rcases hmem y hy with rfl | hy'
        · rcases (hseen _).1 h1 with h1 | h1
          · exact .inr (.inr (.inr ⟨x, hx, h1⟩))
          · exact .inl h1
        · exact .inr (.inr (.inr ⟨y, hin y hy', h1⟩))
  · have hne : d ≠ t := fun e => ht (e ▸ a2)
    rw [put_getD hne]; exact h.same t ht
  · rcases hmem y hy with rfl | hy'
    · exact h.any x hx
    · exact h.any y (hin y hy')

/-- One's own goes on by a value that hangs on nothing. -/
theorem MInv.pure {l : List It} {dn : List Nat} {D : Slots} {U : List Res} {W : Wit} {listed : Array Bool} {a : Act} {w : World} {i d : Nat} {v : Value} {y : AV}
    (h : MInv P N ops sB RB WB a0 w0 L0 ed l dn D U W listed a w) (hi : i ∈ Region.ready .any ops listed) (hil : i < listed.size) (hN : d < N) (hy : AVR W (RB ++ U) w y v) (ho : y.own = true) (hd : ∀ x ∈ l, d ∉ x.c.dsts) (hsB : d ∈ ed) :
    MInv P N ops sB RB WB a0 w0 L0 ed l (i :: dn) ((d, y) :: D) U W (listed.setIfInBounds i true) (a.put (some d) v) w := by
  refine ⟨h.base, h.now.put hN hy, fun p hp => ?_, h.ownU, h.stab, h.fresh, h.below, h.can, fun x hx => ?_, h.fp, h.fpW, h.apart, by simp [h.size], fun k => ?_, h.closed.step hi, fun t ht => ?_, fun x hx t ht => ?_, h.er⟩
  · rcases List.mem_cons.1 hp with rfl | hp
    · exact ho
    · exact h.ownD p hp
  · have h0 := h.ok x hx
    have hne : ∀ t, t ∈ x.c.dsts → d ≠ t := fun t ht' e => hd x hx (e ▸ ht')
    cases hs : x.st with
    | no => trivial
    | mid g =>
      rw [hs] at h0
      obtain ⟨⟨j, t, e1, e2⟩, e3⟩ := h0
      exact ⟨⟨j, t, e1, by rw [put_getD (hne t (by simp [Chn.dsts, e1]))]; exact e2⟩, e3⟩
    | done r S V u =>
      rw [hs] at h0
      obtain ⟨e1, e2, e3, e4, e5, e6⟩ := h0
      exact ⟨e1, e2, e3, e4, e5, by rw [put_getD (hne x.c.dst (dst_mem _))]; exact e6⟩
  · rw [getD_set hil, h.list k, List.mem_cons]
    constructor
    · rintro (h1 | h1 | h1 | h1)
      · exact .inr (.inl (.inl h1))
      · exact .inl h1
      · exact .inr (.inl (.inr h1))
      · exact .inr (.inr h1)
    · rintro (h1 | (h1 | h1) | h1)
      · exact .inr (.inl h1)
      · exact .inl h1
      · exact .inr (.inr (.inl h1))
      · exact .inr (.inr (.inr h1))
  · have hne : d ≠ t := fun e => ht (e ▸ hsB)
    rw [put_getD hne]; exact h.same t ht
  · have hne : d ≠ t := fun e => hd x hx (e ▸ ht)
    simp only [List.cons_append, E.get, hne, if_false]
    exact h.any x hx t ht

/-- One's own goes on by a call. -/
theorem MInv.call {l : List It} {dn : List Nat} {D : Slots} {U : List Res} {W V : Wit} {S : List Res} {listed : Array Bool} {a : Act} {w w' : World} {i d : Nat} {v : Value} {r : AV}
    (h : MInv P N ops sB RB WB a0 w0 L0 ed l dn D U W listed a w) (hi : i ∈ Region.ready .any ops listed) (hil : i < listed.size) (hN : d < N) (hb : Below w.heap.size w w') (hr : r.own = true) (hS : S.all Res.own = true) (hv : AVR V S w' r v) (hsp : Sep w' V S) (hn : ∀ i b, V.fs i b → w.heap.size ≤ b)
    (hd : ∀ x ∈ l, d ∉ x.c.dsts) (hsB : d ∈ ed) :
    MInv P N ops sB RB WB a0 w0 L0 ed l (i :: dn) ((d, r.sh (RB ++ U).length) :: D) (U ++ S.map (Res.sh (RB ++ U).length)) (Wit.join (RB ++ U).length W V) (listed.setIfInBounds i true) (a.put (some d) v) w' := by
  obtain ⟨tr, sp⟩ := h.now.sep.frame hb hsp hS hn
  have hl : RB.length ≤ (RB ++ U).length := by simp
  refine ⟨h.base, ?_, fun p hp => ?_, by rw [List.all_append, h.ownU, res_shs_own, hS]; rfl, fun j hj => ?_, fun j b hj hf => ?_, h.below.trans (hb.mono h.below.size), h.can, fun x hx => ?_, fun x hx b hb' => ?_, fun x hx b hb' j hj => ?_, h.apart, by simp [h.size], fun k => ?_, h.closed.step hi, fun t ht => ?_, fun x hx t ht => ?_, h.er⟩
  · rw [← List.append_assoc]
    exact (h.now.next tr sp).put hN (hv.sh hr)
  · rcases List.mem_cons.1 hp with rfl | hp
    · rw [av_sh_own]; exact hr
    · exact h.ownD p hp
  · have : j < (RB ++ U).length := by omega
    simp only [Wit.join, this, if_true]
    exact h.stab j hj
  · simp only [Wit.join] at hf
    split at hf
    · exact h.fresh j b hj hf
    · exact Nat.le_trans h.below.size (hn _ b hf)
  · have h0 := h.ok x hx
    have hne : ∀ t, t ∈ x.c.dsts → d ≠ t := fun t ht' e => hd x hx (e ▸ ht')
    have hst : ∀ b, x.st.fp b → w'.heap[b]? = w.heap[b]? := fun b hb' => hb.block b (h.fp x hx b hb').2
    cases hs : x.st with
    | no => trivial
    | mid g =>
      rw [hs] at h0 hst
      obtain ⟨⟨j, t, e1, e2⟩, e3⟩ := h0
      exact ⟨⟨j, t, e1, by rw [put_getD (hne t (by simp [Chn.dsts, e1]))]; exact e2⟩, by rw [hst g rfl]; exact e3⟩
    | done r S V u =>
      rw [hs] at h0 hst
      obtain ⟨e1, e2, e3, e4, e5, e6⟩ := h0
      exact ⟨e1, e2, e3, e4.anyw e2, e5.anyw e3 hb.size (fun j b hj => hst b ⟨j, hj⟩), by rw [put_getD (hne x.c.dst (dst_mem _))]; exact e6⟩
  · have := h.fp x hx b hb'
    exact ⟨this.1, Nat.lt_of_lt_of_le this.2 hb.size⟩
  · simp only [Wit.join] at hj
    split at hj
    · exact h.fpW x hx b hb' _ hj
    · exact absurd (h.fp x hx b hb').2 (by have := hn _ b hj; omega)
  · rw [getD_set hil, h.list k, List.mem_cons]
    constructor
    · rintro (h1 | h1 | h1 | h1)
      · exact .inr (.inl (.inl h1))
      · exact .inl h1
      · exact .inr (.inl (.inr h1))
      · exact .inr (.inr h1)
    · rintro (h1 | (h1 | h1) | h1)
      · exact .inr (.inl h1)
      · exact .inl h1
      · exact .inr (.inr (.inl h1))
      · exact .inr (.inr (.inr h1))
  · have hne : d ≠ t := fun e => ht (e ▸ hsB)
    rw [put_getD hne]; exact h.same t ht
  · have hne : d ≠ t := fun e => hd x hx (e ▸ ht)
    simp only [List.cons_append, E.get, hne, if_false]
    exact h.any x hx t ht
end
end Go.Proofs.Ytkaikajjhhnifaa.E
