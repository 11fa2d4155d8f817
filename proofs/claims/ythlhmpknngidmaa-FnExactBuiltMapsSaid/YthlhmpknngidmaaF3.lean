/- Words of the session's own, put together: part 3. -/
import Derived.Test.YthlhmpknngidmaaF2
import Derived.Deep.AppendSrc
import Derived.Laws.IdiomCopy
namespace Go.Proofs.Ythlhmpknngidmaa.E
open Go Go.RowKit
set_option linter.unusedVariables false
set_option linter.unusedSimpArgs false

/-! ### 1. What a callee has made, laid behind one's own -/
theorem Sep.frame {w w' : World} {W V : Wit} {R S : List Res} (hs : Sep w W R) (hb : Below w.heap.size w w') (k3 : Sep w' V S) (q2 : S.all Res.own = true) (hnew : ∀ i b, V.fs i b → w.heap.size ≤ b) :
    Trans w W R w' (Wit.join R.length W V) (R ++ S.map (Res.sh R.length)) ∧ Sep w' (Wit.join R.length W V) (R ++ S.map (Res.sh R.length)) := by
  have tr : Trans w W R w' (Wit.join R.length W V) (R ++ S.map (Res.sh R.length)) := by
    refine ⟨hb.os, hb.tape, hb.output, hb.size, fun b hb' => hb.block b hb'.1, fun i b hi => ?_, fun i => ?_⟩
    · simp only [Wit.join] at hi
      split at hi
      · exact .inl ⟨i, hi⟩
      · exact .inr (hnew _ b hi)
    · rcases Nat.lt_or_ge i R.length with hi | hi
      · rw [List.getElem?_append_left hi]
        have : (Wit.join R.length W V).hs i = W.hs i := by simp [Wit.join, hi]
        rw [this]; exact Goes.refl _ _
      · rw [List.getElem?_eq_none hi]; exact trivial
  refine ⟨tr, fun i r hr => ?_, fun i hi b hb' => ?_, fun i hi b hb' => ?_, fun i j b hi hj => ?_, fun i b hi => ?_⟩
  · rcases Nat.lt_or_ge i R.length with hi | hi
    · rw [List.getElem?_append_left hi] at hr
      have e1 : (Wit.join R.length W V).hs i = W.hs i := by simp [Wit.join, hi]
      have e2 : (Wit.join R.length W V).fs i = W.fs i := by funext b; simp [Wit.join, hi]
      rw [e1, e2]
      exact (hs.res i r hr).next tr fun b hb' => hb.block b (hs.lt i b hb')
    · have hr' := hr
      rw [show i = R.length + (i - R.length) by omega] at hr'
      obtain ⟨r0, e1, rfl⟩ := join_back hr'
      have e2 : (Wit.join R.length W V).hs i = V.hs (i - R.length) := by simp [Wit.join, show ¬ i < R.length by omega]
      have e3 : (Wit.join R.length W V).fs i = V.fs (i - R.length) := by funext b; simp [Wit.join, show ¬ i < R.length by omega]
      rw [e2, e3]
      have hr0 := k3.res _ _ e1
      cases r0 with
      | box cs =>
        obtain ⟨b, arr, e, f1, f2, f3, f4⟩ := hr0
        have hown : Res.own (.box cs) = true := List.all_eq_true.1 q2 _ (List.mem_of_getElem? e1)
        exact ⟨b, arr, e, f1, f2, f3, f4.sh hown⟩
      | row e k rows => exact hr0
      | gone => trivial
      | pin x u =>
        obtain ⟨f1, f2⟩ := hr0
        have hown : Res.own (.pin x u) = true := List.all_eq_true.1 q2 _ (List.mem_of_getElem? e1)
        exact ⟨f1, f2.sh (by simpa [AC.own.owns, Res.own] using hown)⟩
  · simp only [Wit.join] at hb'
    simp only [List.length_append, List.length_map] at hi
    rw [if_neg (by omega)] at hb'
    exact k3.out _ (by omega) b hb'
  · simp only [Wit.join] at hb'
    rcases Nat.lt_or_ge i R.length with h' | h'
    · rw [List.getElem?_append_left h'] at hi
      rw [if_pos h'] at hb'
      exact hs.gone i hi b hb'
    · rw [if_neg (by omega)] at hb'
      rw [show i = R.length + (i - R.length) by omega] at hi
      obtain ⟨r0, e1, e2⟩ := join_back hi
      have : r0 = .gone := by cases r0 <;> first | rfl | cases e2
      rw [this] at e1
      exact k3.gone _ e1 b hb'
  · simp only [Wit.join] at hi hj
    split at hi <;> split at hj
    · exact hs.apart i j b hi hj
    · exact absurd (hs.lt i b hi) (by have := hnew _ b hj; omega)
    · exact absurd (hs.lt j b hj) (by have := hnew _ b hi; omega)
    · have := k3.apart _ _ b hi hj; omega
  · simp only [Wit.join] at hi
    split at hi
    · exact Nat.lt_of_lt_of_le (hs.lt i b hi) hb.size
    · exact k3.lt _ b hi

/-- Blocks stay. -/
theorem Sep.stay {w w' : World} {V : Wit} {S : List Res} (hs : Sep w V S) (ho : w'.os = w.os) (ht : w'.tape = w.tape) (hu : w'.output = w.output) (hz : w.heap.size ≤ w'.heap.size) (hb : ∀ b, b < w.heap.size → (∀ i, ¬ V.fs i b) → w'.heap[b]? = w.heap[b]?) (hf : ∀ i b, V.fs i b → w'.heap[b]? = w.heap[b]?) :
    Trans w V S w' V S ∧ Sep w' V S := by
  have tr : Trans w V S w' V S := ⟨ho, ht, hu, hz, fun b hb' => hb b hb'.1 hb'.2, fun i b h => .inl ⟨i, h⟩, fun i => Goes.refl _ _⟩
  exact ⟨tr, fun i r hr => (hs.res i r hr).next tr fun b hb' => hf i b hb', hs.out, hs.gone, hs.apart, fun i b h => Nat.lt_of_lt_of_le (hs.lt i b h) hz⟩

/-! ### 2. Two things of one's own, side by side -/
theorem AR.more {W V : Wit} {R S : List Res} {w : World} {cs : List AC} {vs : List Value} (h : AR W R w cs vs) : AC.own.owns cs = true → AR (Wit.join R.length W V) (R ++ S) w cs vs := by
  have hh : ∀ i, i < R.length → (Wit.join R.length W V).hs i = W.hs i := fun i hi => by simp [Wit.join, hi]
  have hl : ∀ i, i < R.length → i < (R ++ S).length := fun i hi => by simp; omega
  have hg : ∀ i, i < R.length → (R ++ S)[i]? = R[i]? := fun i hi => List.getElem?_append_left hi
  induction h with
  | nil => intro _; exact .nil
  | sc h1 _ ih => intro ho; exact .sc h1 (ih (by simpa [AC.own.owns, AC.own] using ho))
  | any h1 _ ih => intro ho; exact .any h1 (ih (by simpa [AC.own.owns, AC.own] using ho))
  | ro h1 _ ih => intro ho; simp [AC.own.owns, AC.own] at ho
  | rp b o inner h1 h2 h3 h4 _ ih => intro ho; simp [AC.own.owns, AC.own] at ho
  | fn _ _ ih1 ih2 =>
    intro ho
    simp only [AC.own.owns, AC.own, Bool.and_eq_true] at ho
    exact .fn (ih1 ho.1) (ih2 ho.2)
  | sl h1 h2 h3 _ ih => intro ho; exact .sl h1 (hl _ h2) (fun e k rows hr => by rw [hg _ h2] at hr; rw [hh _ h2]; exact h3 e k rows hr) (ih (by simpa [AC.own.owns, AC.own] using ho))
  | ep h1 h2 h3 _ ih => intro ho; exact .ep h1 (hl _ h2) (fun e k rows hr => by rw [hg _ h2] at hr; rw [hh _ h2]; exact h3 e k rows hr) (ih (by simpa [AC.own.owns, AC.own] using ho))
  | bp h1 h2 h3 _ ih => intro ho; exact .bp h1 (hl _ h2) (fun xs hr => by rw [hg _ h2] at hr; rw [hh _ h2]; exact h3 xs hr) (ih (by simpa [AC.own.owns, AC.own] using ho))

theorem AVR.more {W V : Wit} {R S : List Res} {w : World} {x : AV} {v : Value} (h : AVR W R w x v) (ho : x.own = true) : AVR (Wit.join R.length W V) (R ++ S) w x v := by
  cases x with
  | c x => exact AR.more (show AR W R w [x] [v] from h) (by simpa [AC.own.owns, AV.own] using ho)
  | agg xs => obtain ⟨vs, e, h⟩ := h; exact ⟨vs, e, h.more ho⟩
  | tup xs =>
    obtain ⟨us, e, hl, h⟩ := h
    refine ⟨us, e, hl, fun i y u h1 h2 => ?_⟩
    obtain ⟨vs, e1, e2⟩ := h i y u h1 h2
    have hz : AC.own.owns y.2 = true := by
      simp only [AV.own, List.all_eq_true] at ho
      exact ho y (List.mem_of_getElem? h1)
    exact ⟨vs, e1, e2.more hz⟩
  | any => trivial

theorem Sep.side {w : World} {W V : Wit} {R S : List Res} (hs : Sep w W R) (hv : Sep w V S) (q1 : R.all Res.own = true) (q2 : S.all Res.own = true) (hd : ∀ i j b, W.fs i b → ¬ V.fs j b) :
    Sep w (Wit.join R.length W V) (R ++ S.map (Res.sh R.length)) := by
  refine ⟨fun i r hr => ?_, fun i hi b hb' => ?_, fun i hi b hb' => ?_, fun i j b hi hj => ?_, fun i b hi => ?_⟩
  · rcases Nat.lt_or_ge i R.length with hi | hi
    · rw [List.getElem?_append_left hi] at hr
      have e1 : (Wit.join R.length W V).hs i = W.hs i := by simp [Wit.join, hi]
      have e2 : (Wit.join R.length W V).fs i = W.fs i := by funext b; simp [Wit.join, hi]
      rw [e1, e2]
      have hr0 := hs.res i r hr
      cases r with
      | box cs =>
        obtain ⟨b, arr, e, f1, f2, f3, f4⟩ := hr0
        have hown : Res.own (.box cs) = true := List.all_eq_true.1 q1 _ (List.mem_of_getElem? hr)
        exact ⟨b, arr, e, f1, f2, f3, f4.more hown⟩
      | row e k rows => exact hr0
      | gone => trivial
      | pin x u =>
        obtain ⟨f1, f2⟩ := hr0
        have hown : Res.own (.pin x u) = true := List.all_eq_true.1 q1 _ (List.mem_of_getElem? hr)
        exact ⟨f1, f2.more (by simpa [AC.own.owns, Res.own] using hown)⟩
    · have hr' := hr
      rw [show i = R.length + (i - R.length) by omega] at hr'
      obtain ⟨r0, e1, rfl⟩ := join_back hr'
      have e2 : (Wit.join R.length W V).hs i = V.hs (i - R.length) := by simp [Wit.join, show ¬ i < R.length by omega]
      have e3 : (Wit.join R.length W V).fs i = V.fs (i - R.length) := by funext b; simp [Wit.join, show ¬ i < R.length by omega]
      rw [e2, e3]
      have hr0 := hv.res _ _ e1
      cases r0 with
      | box cs =>
        obtain ⟨b, arr, e, f1, f2, f3, f4⟩ := hr0
        have hown : Res.own (.box cs) = true := List.all_eq_true.1 q2 _ (List.mem_of_getElem? e1)
        exact ⟨b, arr, e, f1, f2, f3, f4.sh hown⟩
      | row e k rows => exact hr0
      | gone => trivial
      | pin x u =>
        obtain ⟨f1, f2⟩ := hr0
        have hown : Res.own (.pin x u) = true := List.all_eq_true.1 q2 _ (List.mem_of_getElem? e1)
        exact ⟨f1, f2.sh (by simpa [AC.own.owns, Res.own] using hown)⟩
  · simp only [Wit.join] at hb'
    simp only [List.length_append, List.length_map] at hi
    rw [if_neg (by omega)] at hb'
    exact hv.out _ (by omega) b hb'
  · simp only [Wit.join] at hb'
    rcases Nat.lt_or_ge i R.length with h' | h'
    · rw [List.getElem?_append_left h'] at hi
      rw [if_pos h'] at hb'
      exact hs.gone i hi b hb'
    · rw [if_neg (by omega)] at hb'
      rw [show i = R.length + (i - R.length) by omega] at hi
      obtain ⟨r0, e1, e2⟩ := join_back hi
      have : r0 = .gone := by cases r0 <;> first | rfl | cases e2
      rw [this] at e1
      exact hv.gone _ e1 b hb'
  · simp only [Wit.join] at hi hj
    split at hi <;> split at hj
    · exact hs.apart i j b hi hj
    · exact absurd hj (hd _ _ b hi)
    · exact absurd hi (hd _ _ b hj)
    · have := hv.apart _ _ b hi hj; omega
  · simp only [Wit.join] at hi
    split at hi
    · exact hs.lt i b hi
    · exact hv.lt _ b hi

theorem sh_own (n : Nat) : ∀ (c : AC), (c.sh n).own = c.own
  | .sl .. => rfl
  | .bp .. => rfl
  | .ep .. => rfl
  | .fn f caps => by simp [AC.sh, AC.own, shs_own n caps]
  | .sc _ => rfl
  | .ro _ => rfl
  | .rp _ => rfl
  | .any => rfl
where shs_own (n : Nat) : ∀ (cs : List AC), AC.own.owns (AC.sh.shs n cs) = AC.own.owns cs
  | [] => rfl
  | c :: cs => by simp [AC.sh.shs, AC.own.owns, sh_own n c, shs_own n cs]
theorem av_sh_own (n : Nat) (x : AV) : (x.sh n).own = x.own := by
  cases x with
  | c x => simp [AV.sh, AV.own, sh_own]
  | agg xs => simp [AV.sh, AV.own, sh_own.shs_own]
  | tup xs => simp [AV.sh, AV.own, sh_own.shs_own, Function.comp_def]
  | any => rfl
theorem res_sh_own (n : Nat) (x : Res) : (x.sh n).own = x.own := by cases x <;> simp [Res.sh, Res.own, sh_own.shs_own, sh_own]
theorem res_shs_own (n : Nat) (S : List Res) : (S.map (Res.sh n)).all Res.own = S.all Res.own := by
  induction S with
  | nil => rfl
  | cons r S ih => simp only [List.map_cons, List.all_cons, res_sh_own, ih]

/-! ### 3. Chains: a call, or an empty slice and what is appended to it -/
structure Chn where
  mid : Option (Nat × Nat)
  num : Nat
  dst : Nat
  e : TypeId

def Chn.nums (c : Chn) : List Nat := match c.mid with | some x => [x.1, c.num] | none => [c.num]
def Chn.dsts (c : Chn) : List Nat := match c.mid with | some x => [x.2, c.dst] | none => [c.dst]

/-- An operation that makes something by itself. -/
def FOp (P : Program) (N : Nat) (o : Oper) (s : Slots) (R : List Res) (Q : AV → List Res → Prop) : Prop :=
  ∀ Qx a w W, Now N s R a w W → o.wp P a w (fun a' w' => Below w.heap.size w w' ∧ ∃ r S V v, Q r S ∧ r.own = true ∧ S.all Res.own = true ∧ a' = a.put o.dst v ∧ AVR V S w' r v ∧ Sep w' V S ∧ ∀ i b, V.fs i b → w.heap.size ≤ b) Qx
def FOp0 (P : Program) (o : Oper) (e : TypeId) : Prop :=
  ∀ Qx a w, o.wp P a w (fun a' w' => a' = a.put o.dst (.slice (some ⟨w.heap.size, 0, none⟩) 0 0) ∧ w' = w.alloc (.cells #[] e)) Qx
def FOp1 (P : Program) (N : Nat) (o : Oper) (dm : Nat) (e : TypeId) (s : Slots) (R : List Res) (Q : AV → List Res → Prop) : Prop :=
  ∀ Qx a w W g, Now N s R a w W → a.tmps.getD dm undef = .slice (some ⟨g, 0, none⟩) 0 0 → w.heap[g]? = some (.cells #[] e (0, 0)) → o.wp P a w (fun a' w' => Below w.heap.size w w' ∧
    ∃ r S V v, Q r S ∧ r.own = true ∧ S.all Res.own = true ∧ a' = a.put o.dst v ∧ AVR V S w' r v ∧ Sep w' V S ∧ ∀ i b, V.fs i b → b = g ∨ w.heap.size ≤ b) Qx

inductive ChOk (P : Program) (N : Nat) (ops : Array Oper) (s : Slots) (R : List Res) : Chn → (AV → List Res → Prop) → Prop
  | one {i d e : Nat} {o : Oper} {Q : AV → List Res → Prop} : ops[i]? = some o → want ops o s = some true → o.dst = some d → d < N → FOp P N o s R Q → ChOk P N ops s R ⟨none, i, d, e⟩ Q
  | two {im dm i d e : Nat} {o om : Oper} {Q : AV → List Res → Prop} : ops[im]? = some om → want ops om s = some true → om.dst = some dm → dm < N → FOp0 P om e → ops[i]? = some o → want ops o s = some true → o.dst = some d → d < N → FOp1 P N o dm e s R Q → ChOk P N ops s R ⟨some (im, dm), i, d, e⟩ Q

inductive St where
  | no
  | mid (g : Nat)
  | done (r : AV) (S : List Res) (V : Wit) (v : Value)

def St.fp : St → Nat → Prop
  | .no, _ => False
  | .mid g, b => b = g
  | .done _ _ V _, b => ∃ i, V.fs i b
def St.seen (c : Chn) : St → Nat → Prop
  | .no, _ => False
  | .mid _, k => ∃ d, c.mid = some (k, d)
  | .done _ _ _ _, k => k ∈ c.nums
def St.left (c : Chn) : St → Nat
  | .no => c.nums.length
  | .mid _ => 1
  | .done _ _ _ _ => 0
def St.Ok (c : Chn) (Q : AV → List Res → Prop) (a : Act) (w : World) : St → Prop
  | .no => True
  | .mid g => (∃ i d, c.mid = some (i, d) ∧ a.tmps.getD d undef = .slice (some ⟨g, 0, none⟩) 0 0) ∧ w.heap[g]? = some (.cells #[] c.e (0, 0))
  | .done r S V v => Q r S ∧ r.own = true ∧ S.all Res.own = true ∧ AVR V S w r v ∧ Sep w V S ∧ a.tmps.getD c.dst undef = v

structure It where
  c : Chn
  Q : AV → List Res → Prop
  st : St

def Apart (x y : It) : Prop := (∀ k ∈ x.c.nums, k ∉ y.c.nums) ∧ (∀ d ∈ x.c.dsts, d ∉ y.c.dsts) ∧ ∀ b, x.st.fp b → ¬ y.st.fp b

theorem AR.anyw {V : Wit} {S : List Res} {w w' : World} {cs : List AC} {vs : List Value} (h : AR V S w cs vs) : AC.own.owns cs = true → AR V S w' cs vs := by
  induction h with
  | nil => intro _; exact .nil
  | sc h1 _ ih => intro ho; exact .sc h1 (ih (by simpa [AC.own.owns, AC.own] using ho))
  | any h1 _ ih => intro ho; exact .any h1 (ih (by simpa [AC.own.owns, AC.own] using ho))
  | ro h1 _ ih => intro ho; simp [AC.own.owns, AC.own] at ho
  | rp b o inner h1 h2 h3 h4 _ ih => intro ho; simp [AC.own.owns, AC.own] at ho
  | fn _ _ ih1 ih2 =>
    intro ho
    simp only [AC.own.owns, AC.own, Bool.and_eq_true] at ho
    exact .fn (ih1 ho.1) (ih2 ho.2)
  | sl h1 h2 h3 _ ih => intro ho; exact .sl h1 h2 h3 (ih (by simpa [AC.own.owns, AC.own] using ho))
  | ep h1 h2 h3 _ ih => intro ho; exact .ep h1 h2 h3 (ih (by simpa [AC.own.owns, AC.own] using ho))
  | bp h1 h2 h3 _ ih => intro ho; exact .bp h1 h2 h3 (ih (by simpa [AC.own.owns, AC.own] using ho))

theorem AVR.anyw {V : Wit} {S : List Res} {w w' : World} {x : AV} {v : Value} (h : AVR V S w x v) (ho : x.own = true) : AVR V S w' x v := by
  cases x with
  | c x => exact AR.anyw (show AR V S w [x] [v] from h) (by simpa [AC.own.owns, AV.own] using ho)
  | agg xs => obtain ⟨vs, e, h⟩ := h; exact ⟨vs, e, h.anyw ho⟩
  | tup xs =>
    obtain ⟨us, e, hl, h⟩ := h
    refine ⟨us, e, hl, fun i y u h1 h2 => ?_⟩
    obtain ⟨vs, e1, e2⟩ := h i y u h1 h2
    have hz : AC.own.owns y.2 = true := by
      simp only [AV.own, List.all_eq_true] at ho
      exact ho y (List.mem_of_getElem? h1)
    exact ⟨vs, e1, e2.anyw hz⟩
  | any => trivial

theorem Sep.anyw {V : Wit} {S : List Res} {w w' : World} (hs : Sep w V S) (ho : S.all Res.own = true) (hz : w.heap.size ≤ w'.heap.size) (hf : ∀ i b, V.fs i b → w'.heap[b]? = w.heap[b]?) : Sep w' V S := by
  refine ⟨fun i r hr => ?_, hs.out, hs.gone, hs.apart, fun i b h => Nat.lt_of_lt_of_le (hs.lt i b h) hz⟩
  have h0 := hs.res i r hr
  cases r with
  | box cs =>
    obtain ⟨b, arr, e, h1, h2, h3, h4⟩ := h0
    exact ⟨b, arr, e, h1, h2, by rw [hf i b ((h2 b).2 rfl)]; exact h3, h4.anyw (List.all_eq_true.1 ho _ (List.mem_of_getElem? hr))⟩
  | row e k rows =>
    obtain ⟨h1, h2, cells, G, h3, h4, h5, h6⟩ := h0
    exact ⟨h1, h2, cells, G, ownsRow_congr h3 fun b hb => hf i b ((h6 b).2 (.inl hb)), h4.mono fun b hb => hf i b ((h6 b).2 (.inr hb)), h5, h6⟩
  | gone => trivial
  | pin x u =>
    obtain ⟨h1, h2⟩ := h0
    exact ⟨h1, h2.anyw (by simpa [AC.own.owns, Res.own] using List.all_eq_true.1 ho _ (List.mem_of_getElem? hr))⟩

structure Inv (P : Program) (N : Nat) (ops : Array Oper) (s : Slots) (R : List Res) (W : Wit) (a0 : Act) (w0 : World) (L0 : Array Bool) (l : List It) (listed : Array Bool) (a : Act) (w : World) : Prop where
  now0 : Now N s R a0 w0 W
  tsize : a.tmps.size = N
  defers : a.defers = []
  below : Below w0.heap.size w0 w
  can : ∀ x ∈ l, ChOk P N ops s R x.c x.Q
  ok : ∀ x ∈ l, x.st.Ok x.c x.Q a w
  fp : ∀ x ∈ l, ∀ b, x.st.fp b → w0.heap.size ≤ b ∧ b < w.heap.size
  apart : l.Pairwise Apart
  size : listed.size = L0.size
  list : ∀ k, listed.getD k false = true ↔ (L0.getD k false = true ∨ ∃ x ∈ l, x.st.seen x.c k)
  closed : Closed .any ops listed
  same : ∀ t, (∀ x ∈ l, t ∉ x.c.dsts) → a.tmps.getD t undef = a0.tmps.getD t undef
  any : ∀ x ∈ l, ∀ d ∈ x.c.dsts, E.get s d = .any

theorem Inv.now {P : Program} {N : Nat} {ops : Array Oper} {s : Slots} {R : List Res} {W : Wit} {a0 : Act} {w0 : World} {L0 listed : Array Bool} {l : List It} {a : Act} {w : World} (h : Inv P N ops s R W a0 w0 L0 l listed a w) : Now N s R a w W := by
  have hs := h.now0.sep
  obtain ⟨tr, sp⟩ := hs.stay h.below.os h.below.tape h.below.output h.below.size (fun b hb _ => h.below.block b hb) (fun i b hb => h.below.block b (hs.lt i b hb))
  refine ⟨h.tsize, h.defers, fun t => ?_, sp⟩
  by_cases e : ∃ x ∈ l, t ∈ x.c.dsts
  · obtain ⟨x, hx, ht⟩ := e
    rw [h.any x hx t ht]; exact AVR.any ..
  · rw [h.same t fun x hx ht => e ⟨x, hx, ht⟩]
    exact (h.now0.val t).next tr

theorem put_getD {a : Act} {d t : Nat} {v : Value} (h : d ≠ t) : (a.put (some d) v).tmps.getD t undef = a.tmps.getD t undef := by
  simp [Act.put, Array.getD_eq_getD_getElem?, Array.getElem?_setIfInBounds, h]
theorem getD_set {L : Array Bool} {i k : Nat} (hi : i < L.size) : (L.setIfInBounds i true).getD k false = true ↔ (k = i ∨ L.getD k false = true) := by
  simp only [Array.getD_eq_getD_getElem?]
  by_cases e : i = k
  · subst e; simp [hi]
  · simp [Array.getElem?_setIfInBounds_ne e, Ne.symm e]

/-! ### 4. All orders -/
def afters (ops : Array Oper) (k : Nat) : List Nat := match ops[k]? with | some o => (o.after.toList.filter (Region.binds .any)).map (·.on) | none => []

theorem ready_iff {ops : Array Oper} {listed : Array Bool} {j : Nat} : j ∈ Region.ready .any ops listed ↔ (j < listed.size ∧ listed.getD j false = false) ∧ j < ops.size ∧ ∀ k ∈ afters ops j, listed.getD k false = true := by
  rw [mem_ready]
  have e1 : listed.getD j true = false ↔ (j < listed.size ∧ listed.getD j false = false) := by
    simp only [Array.getD_eq_getD_getElem?]
    rcases Nat.lt_or_ge j listed.size with h | h
    · simp [h]
    · simp [Array.getElem?_eq_none h]; omega
  rw [e1]
  unfold afters
  constructor
  · rintro ⟨h1, o, h2, h3⟩
    refine ⟨h1, (Array.getElem?_eq_some_iff.1 h2).1, fun k hk => ?_⟩
    rw [h2] at hk
    simp only [List.mem_map, List.mem_filter] at hk
    obtain ⟨e, ⟨he, hb⟩, rfl⟩ := hk
    exact h3 e (by simpa using he) hb
  · rintro ⟨h1, h2, h3⟩
    refine ⟨h1, ops[j], Array.getElem?_eq_getElem h2, fun e he hb => h3 _ ?_⟩
    rw [Array.getElem?_eq_getElem h2]
    simp only [List.mem_map, List.mem_filter]
    exact ⟨e, ⟨by simpa using he, hb⟩, rfl⟩

def chOk1 (ops : Array Oper) (L0 : Array Bool) (c : Chn) : Bool :=
  c.nums.all (fun k => decide (k < ops.size) && (decide (k < L0.size) && !L0.getD k false)) &&
  (match c.mid with
   | some x => x.1 != c.num && (afters ops c.num).contains x.1
   | none => true)
def chD (ops : Array Oper) (L0 : Array Bool) (prev : List Nat) (c : Chn) : Bool :=
  match c.mid with
  | some x => ((afters ops x.1).all fun k => L0.getD k false || prev.contains k) && (afters ops c.num).all fun k => k == x.1 || (L0.getD k false || prev.contains k)
  | none => (afters ops c.num).all fun k => L0.getD k false || prev.contains k
def It.over (x : It) : Prop := ∃ r S V v, x.st = .done r S V v

section
variable {P : Program} {N : Nat} {ops : Array Oper} {s : Slots} {R : List Res} {W : Wit} {a0 : Act} {w0 : World} {L0 : Array Bool} {C : List (Chn × (AV → List Res → Prop))}

theorem num_mem (c : Chn) : c.num ∈ c.nums := by unfold Chn.nums; split <;> simp
theorem dst_mem (c : Chn) : c.dst ∈ c.dsts := by unfold Chn.dsts; split <;> simp

theorem Inv.unseen {l : List It} {listed : Array Bool} {a : Act} {w : World} (h : Inv P N ops s R W a0 w0 L0 l listed a w) {x : It} (hx : x ∈ l) {k : Nat} (hk : k ∈ x.c.nums) (h0 : L0.getD k false = false) (hns : ¬ x.st.seen x.c k) : listed.getD k false = false := by
  rw [Bool.eq_false_iff]
  intro hl
  rcases (h.list k).1 hl with h3 | ⟨y, hy, h3⟩
  · rw [h0] at h3; cases h3
  · have hky : k ∈ y.c.nums := by
      cases hs : y.st with
      | no => rw [hs] at h3; exact h3.elim
      | mid g => rw [hs] at h3; obtain ⟨d, e⟩ := h3; simp [Chn.nums, e]
      | done r S V v => rw [hs] at h3; exact h3
    by_cases e : y = x
    · subst e; exact hns h3
    · have hp := h.apart
      have : Apart x y ∨ Apart y x := by
        rw [List.pairwise_iff_getElem] at hp
        obtain ⟨i, hi, rfl⟩ := List.mem_iff_getElem.1 hx
        obtain ⟨j, hj, rfl⟩ := List.mem_iff_getElem.1 hy
        rcases Nat.lt_trichotomy i j with h' | h' | h'
        · exact .inl (hp i j hi hj h')
        · subst h'; exact absurd rfl e
        · exact .inr (hp j i hj hi h')
      rcases this with h' | h'
      · exact h'.1 k hk hky
      · exact h'.1 k hky hk

/-- What the first chain that is not over has next may come up. -/
theorem Inv.next {l1 l2 : List It} {x : It} {listed : Array Bool} {a : Act} {w : World} (h : Inv P N ops s R W a0 w0 L0 (l1 ++ x :: l2) listed a w) (hc : chOk1 ops L0 x.c = true) (hd : chD ops L0 ((l1.map It.c).flatMap Chn.nums) x.c = true) (ho : ∀ y ∈ l1, y.over) (hn : ¬ x.over) : ∃ i, i ∈ Region.ready .any ops listed := by
  have hx : x ∈ l1 ++ x :: l2 := by simp
  simp only [chOk1, Bool.and_eq_true, List.all_eq_true, decide_eq_true_eq, Bool.not_eq_true'] at hc
  obtain ⟨h1, h2⟩ := hc
  have un : ∀ k ∈ x.c.nums, ¬ x.st.seen x.c k → listed.getD k false = false := fun k hk hns => h.unseen hx hk (h1 k hk).2.2 hns
  have hL : ∀ k, (L0.getD k false || ((l1.map It.c).flatMap Chn.nums).contains k) = true → listed.getD k false = true := fun k hk => by
    rw [Bool.or_eq_true] at hk
    rcases hk with hk | hk
    · exact (h.list k).2 (.inl hk)
    · rw [List.contains_iff_mem] at hk
      obtain ⟨c, hc, hk⟩ := List.mem_flatMap.1 hk
      obtain ⟨y, hy, rfl⟩ := List.mem_map.1 hc
      obtain ⟨r, S, V, v, e⟩ := ho y hy
      exact (h.list k).2 (.inr ⟨y, by simp [hy], by rw [e]; exact hk⟩)
  unfold chD at hd
  cases hm : x.c.mid with
  | none =>
    rw [hm] at hd
    simp only [List.all_eq_true] at hd
    cases hs : x.st with
    | no =>
      have hk := num_mem x.c
      exact ⟨x.c.num, ready_iff.2 ⟨⟨by rw [h.size]; exact (h1 _ hk).2.1, un _ hk (by rw [hs]; exact fun h => h)⟩, (h1 _ hk).1, fun k hk' => hL k (hd k hk')⟩⟩
    | mid g =>
      have := h.ok x hx
      rw [hs] at this
      obtain ⟨⟨i, d, e, _⟩, _⟩ := this
      rw [hm] at e; cases e
    | done r S V v => exact absurd ⟨r, S, V, v, hs⟩ hn
  | some m =>
    rw [hm] at hd h2
    simp only [Bool.and_eq_true, List.all_eq_true, bne_iff_ne] at hd h2
    obtain ⟨h4, h6⟩ := hd
    have h3 := h2.1
    have hk := num_mem x.c
    have hk0 : m.1 ∈ x.c.nums := by simp [Chn.nums, hm]
    cases hs : x.st with
    | no => exact ⟨m.1, ready_iff.2 ⟨⟨by rw [h.size]; exact (h1 _ hk0).2.1, un _ hk0 (by rw [hs]; exact fun h => h)⟩, (h1 _ hk0).1, fun k hk' => hL k (h4 k hk')⟩⟩
    | mid g =>
      refine ⟨x.c.num, ready_iff.2 ⟨⟨by rw [h.size]; exact (h1 _ hk).2.1, un _ hk (by rw [hs]; rintro ⟨d, e⟩; rw [hm] at e; cases e; exact h3 rfl)⟩, (h1 _ hk).1, fun k hk' => ?_⟩⟩
      have h7 := h6 k hk'
      rw [Bool.or_eq_true, beq_iff_eq] at h7
      rcases h7 with rfl | h7
      · exact (h.list _).2 (.inr ⟨x, hx, by rw [hs]; exact ⟨m.2, hm⟩⟩)
      · exact hL k h7
    | done r S V v => exact absurd ⟨r, S, V, v, hs⟩ hn

end

/-! ### 5. All of them behind what stood -/
end Go.Proofs.Ythlhmpknngidmaa.E

namespace Go.Proofs.Ythlhmpknngidmaa.E
open Go Go.RowKit
set_option linter.unusedVariables false
set_option linter.unusedSimpArgs false

section
variable {P : Program} {N : Nat} {s : Slots} {R : List Res}

end

end Go.Proofs.Ythlhmpknngidmaa.E

namespace Go.Proofs.Ythlhmpknngidmaa.E
open Go Go.RowKit
set_option linter.unusedVariables false
set_option linter.unusedSimpArgs false

structure MInv (P : Program) (N : Nat) (ops : Array Oper) (sB : Slots) (RB : List Res) (WB : Wit) (a0 : Act) (w0 : World) (L0 : Array Bool) (ed : List Nat) (l : List It) (dn : List Nat) (D : Slots) (U : List Res) (W : Wit) (listed : Array Bool) (a : Act) (w : World) : Prop where
  base : Now N sB RB a0 w0 WB
  now : Now N (D ++ sB) (RB ++ U) a w W
  ownD : ∀ p ∈ D, p.2.own = true
  ownU : U.all Res.own = true
  stab : ∀ i, i < RB.length → W.hs i = WB.hs i ∧ ∀ b, W.fs i b ↔ WB.fs i b
  fresh : ∀ i b, RB.length ≤ i → W.fs i b → w0.heap.size ≤ b
  below : Below w0.heap.size w0 w
  can : ∀ x ∈ l, ChOk P N ops sB RB x.c x.Q
  ok : ∀ x ∈ l, x.st.Ok x.c x.Q a w
  fp : ∀ x ∈ l, ∀ b, x.st.fp b → w0.heap.size ≤ b ∧ b < w.heap.size
  fpW : ∀ x ∈ l, ∀ b, x.st.fp b → ∀ i, ¬ W.fs i b
  apart : l.Pairwise Apart
  size : listed.size = L0.size
  list : ∀ k, listed.getD k false = true ↔ (L0.getD k false = true ∨ k ∈ dn ∨ ∃ x ∈ l, x.st.seen x.c k)
  closed : Closed .any ops listed
  same : ∀ t, t ∉ ed → a.tmps.getD t undef = a0.tmps.getD t undef
  any : ∀ x ∈ l, ∀ d ∈ x.c.dsts, E.get (D ++ sB) d = .any ∧ d ∈ ed
  er : ∀ t ∈ ed, E.get sB t = .any

section
variable {P : Program} {N : Nat} {ops : Array Oper} {sB : Slots} {RB : List Res} {WB : Wit} {a0 : Act} {w0 : World} {L0 : Array Bool} {ed : List Nat}

/-- One's own goes on by a value that hangs on nothing. -/
theorem MInv.pure {l : List It} {dn : List Nat} {D : Slots} {U : List Res} {W : Wit} {listed : Array Bool} {a : Act} {w : World} {i d : Nat} {v : Value} {y : AV}
    (h : MInv P N ops sB RB WB a0 w0 L0 ed l dn D U W listed a w) (hi : i ∈ Region.ready .any ops listed) (hil : i < listed.size) (hN : d < N) (hy : AVR W (RB ++ U) w y v) (ho : y.own = true) (hd : ∀ x ∈ l, d ∉ x.c.dsts) (hsB : d ∈ ed) :
    MInv P N ops sB RB WB a0 w0 L0 ed l (i :: dn) ((d, y) :: D) U W (listed.setIfInBounds i true) (a.put (some d) v) w := by
  refine ⟨h.base, h.now.put hN hy, fun p hp => ?_, h.ownU, h.stab, h.fresh, h.below, h.can, fun x hx => ?_, h.fp, h.fpW, h.apart, by simp [h.size], fun k => ?_, h.closed.step hi, fun t ht => ?_, fun x hx t ht => ?_, h.er⟩
  · rcases List.mem_cons.1 hp with rfl | hp
    · exact ho
    · exact h.ownD p hp
  · have h0 := h.ok x hx
    have hne : ∀ t, t ∈ x.c.dsts → d ≠ t := fun t ht' e => hd x hx (e ▸ ht')
    cases hs : x.st with
    | no => trivial
    | mid g =>
      rw [hs] at h0
      obtain ⟨⟨j, t, e1, e2⟩, e3⟩ := h0
      exact ⟨⟨j, t, e1, by rw [put_getD (hne t (by simp [Chn.dsts, e1]))]; exact e2⟩, e3⟩
    | done r S V u =>
      rw [hs] at h0
      obtain ⟨e1, e2, e3, e4, e5, e6⟩ := h0
      exact ⟨e1, e2, e3, e4, e5, by rw [put_getD (hne x.c.dst (dst_mem _))]; exact e6⟩
  · rw [getD_set hil, h.list k, List.mem_cons]
    constructor
    · rintro (h1 | h1 | h1 | h1)
      · exact .inr (.inl (.inl h1))
      · exact .inl h1
      · exact .inr (.inl (.inr h1))
      · exact .inr (.inr h1)
    · rintro (h1 | (h1 | h1) | h1)
      · exact .inr (.inl h1)
      · exact .inl h1
      · exact .inr (.inr (.inl h1))
      · exact .inr (.inr (.inr h1))
  · have hne : d ≠ t := fun e => ht (e ▸ hsB)
    rw [put_getD hne]; exact h.same t ht
  · have hne : d ≠ t := fun e => hd x hx (e ▸ ht)
    simp only [List.cons_append, E.get, hne, if_false]
    exact h.any x hx t ht

/-- One's own goes on by a call. -/
theorem MInv.call {l : List It} {dn : List Nat} {D : Slots} {U : List Res} {W V : Wit} {S : List Res} {listed : Array Bool} {a : Act} {w w' : World} {i d : Nat} {v : Value} {r : AV}
    (h : MInv P N ops sB RB WB a0 w0 L0 ed l dn D U W listed a w) (hi : i ∈ Region.ready .any ops listed) (hil : i < listed.size) (hN : d < N) (hb : Below w.heap.size w w') (hr : r.own = true) (hS : S.all Res.own = true) (hv : AVR V S w' r v) (hsp : Sep w' V S) (hn : ∀ i b, V.fs i b → w.heap.size ≤ b)
    (hd : ∀ x ∈ l, d ∉ x.c.dsts) (hsB : d ∈ ed) :
    MInv P N ops sB RB WB a0 w0 L0 ed l (i :: dn) ((d, r.sh (RB ++ U).length) :: D) (U ++ S.map (Res.sh (RB ++ U).length)) (Wit.join (RB ++ U).length W V) (listed.setIfInBounds i true) (a.put (some d) v) w' := by
  obtain ⟨tr, sp⟩ := h.now.sep.frame hb hsp hS hn
  have hl : RB.length ≤ (RB ++ U).length := by simp
  refine ⟨h.base, ?_, fun p hp => ?_, by rw [List.all_append, h.ownU, res_shs_own, hS]; rfl, fun j hj => ?_, fun j b hj hf => ?_, h.below.trans (hb.mono h.below.size), h.can, fun x hx => ?_, fun x hx b hb' => ?_, fun x hx b hb' j hj => ?_, h.apart, by simp [h.size], fun k => ?_, h.closed.step hi, fun t ht => ?_, fun x hx t ht => ?_, h.er⟩
  · rw [← List.append_assoc]
    exact (h.now.next tr sp).put hN (hv.sh hr)
  · rcases List.mem_cons.1 hp with rfl | hp
    · rw [av_sh_own]; exact hr
    · exact h.ownD p hp
  · have : j < (RB ++ U).length := by omega
    simp only [Wit.join, this, if_true]
    exact h.stab j hj
  · simp only [Wit.join] at hf
    split at hf
    · exact h.fresh j b hj hf
    · exact Nat.le_trans h.below.size (hn _ b hf)
  · have h0 := h.ok x hx
    have hne : ∀ t, t ∈ x.c.dsts → d ≠ t := fun t ht' e => hd x hx (e ▸ ht')
    have hst : ∀ b, x.st.fp b → w'.heap[b]? = w.heap[b]? := fun b hb' => hb.block b (h.fp x hx b hb').2
    cases hs : x.st with
    | no => trivial
    | mid g =>
      rw [hs] at h0 hst
      obtain ⟨⟨j, t, e1, e2⟩, e3⟩ := h0
      exact ⟨⟨j, t, e1, by rw [put_getD (hne t (by simp [Chn.dsts, e1]))]; exact e2⟩, by rw [hst g rfl]; exact e3⟩
    | done r S V u =>
      rw [hs] at h0 hst
      obtain ⟨e1, e2, e3, e4, e5, e6⟩ := h0
      exact ⟨e1, e2, e3, e4.anyw e2, e5.anyw e3 hb.size (fun j b hj => hst b ⟨j, hj⟩), by rw [put_getD (hne x.c.dst (dst_mem _))]; exact e6⟩
  · have := h.fp x hx b hb'
    exact ⟨this.1, Nat.lt_of_lt_of_le this.2 hb.size⟩
  · simp only [Wit.join] at hj
    split at hj
    · exact h.fpW x hx b hb' _ hj
    · exact absurd (h.fp x hx b hb').2 (by have := hn _ b hj; omega)
  · rw [getD_set hil, h.list k, List.mem_cons]
    constructor
    · rintro (h1 | h1 | h1 | h1)
      · exact .inr (.inl (.inl h1))
      · exact .inl h1
      · exact .inr (.inl (.inr h1))
      · exact .inr (.inr h1)
    · rintro (h1 | (h1 | h1) | h1)
      · exact .inr (.inl h1)
      · exact .inl h1
      · exact .inr (.inr (.inl h1))
      · exact .inr (.inr (.inr h1))
  · have hne : d ≠ t := fun e => ht (e ▸ hsB)
    rw [put_getD hne]; exact h.same t ht
  · have hne : d ≠ t := fun e => hd x hx (e ▸ ht)
    simp only [List.cons_append, E.get, hne, if_false]
    exact h.any x hx t ht
end
end Go.Proofs.Ythlhmpknngidmaa.E

namespace Go.Proofs.Ythlhmpknngidmaa.E
open Go Go.RowKit
set_option linter.unusedVariables false
set_option linter.unusedSimpArgs false

inductive MRun (P : Program) (N : Nat) (ops : Array Oper) (md : List Nat) (KF : Slots → List Res → Prop) : List (Nat × Bool) → Slots → List Res → Prop
  | done {s : Slots} {R : List Res} : KF s R → MRun P N ops md KF [] s R
  | pure {i d : Nat} {o : Oper} {y : AV} {ms : List (Nat × Bool)} {s : Slots} {R : List Res} : ops[i]? = some o → want ops o s = some true → o.dst = some d → d < N → d ∈ md → Pure P o s R y → y.own = true → MRun P N ops md KF ms ((d, y) :: s) R → MRun P N ops md KF ((i, true) :: ms) s R
  | call {i d : Nat} {o : Oper} {Q : AV → List Res → Prop} {ms : List (Nat × Bool)} {s : Slots} {R : List Res} : ops[i]? = some o → want ops o s = some true → o.dst = some d → d < N → d ∈ md → FOp P N o s R Q →
      (∀ r S, Q r S → MRun P N ops md KF ms ((d, r.sh R.length) :: s) (R ++ S.map (Res.sh R.length))) → MRun P N ops md KF ((i, false) :: ms) s R

section
variable {P : Program} {N : Nat} {ops : Array Oper} {sB : Slots} {RB : List Res} {WB : Wit} {a0 : Act} {w0 : World} {L0 : Array Bool} {ed : List Nat}

theorem seen_num {x : It} {k : Nat} (h : x.st.seen x.c k) : k ∈ x.c.nums := by
  cases hs : x.st with
  | no => rw [hs] at h; exact h.elim
  | mid g => rw [hs] at h; obtain ⟨d, e⟩ := h; simp [Chn.nums, e]
  | done r S V v => rw [hs] at h; exact h

theorem MInv.unseen {l : List It} {dn : List Nat} {D : Slots} {U : List Res} {W : Wit} {listed : Array Bool} {a : Act} {w : World} (h : MInv P N ops sB RB WB a0 w0 L0 ed l dn D U W listed a w) {x : It} (hx : x ∈ l) {k : Nat} (hk : k ∈ x.c.nums) (h0 : L0.getD k false = false) (hdn : k ∉ dn) (hns : ¬ x.st.seen x.c k) : listed.getD k false = false := by
  rw [Bool.eq_false_iff]
  intro hl
  rcases (h.list k).1 hl with h3 | h3 | ⟨y, hy, h3⟩
  · rw [h0] at h3; cases h3
  · exact hdn h3
  · have hky := seen_num h3
    by_cases e : y = x
    · subst e; exact hns h3
    · have hp := h.apart
      have : Apart x y ∨ Apart y x := by
        rw [List.pairwise_iff_getElem] at hp
        obtain ⟨i, hi, rfl⟩ := List.mem_iff_getElem.1 hx
        obtain ⟨j, hj, rfl⟩ := List.mem_iff_getElem.1 hy
        rcases Nat.lt_trichotomy i j with h' | h' | h'
        · exact .inl (hp i j hi hj h')
        · subst h'; exact absurd rfl e
        · exact .inr (hp j i hj hi h')
      rcases this with h' | h'
      · exact h'.1 k hk hky
      · exact h'.1 k hky hk

theorem MInv.next {l1 l2 : List It} {x : It} {dn : List Nat} {D : Slots} {U : List Res} {W : Wit} {listed : Array Bool} {a : Act} {w : World} (h : MInv P N ops sB RB WB a0 w0 L0 ed (l1 ++ x :: l2) dn D U W listed a w) (hc : chOk1 ops L0 x.c = true) (hd : chD ops L0 ((l1.map It.c).flatMap Chn.nums) x.c = true)
    (ho : ∀ y ∈ l1, y.over) (hn : ¬ x.over) (hdn : ∀ k ∈ x.c.nums, k ∉ dn) : ∃ i, i ∈ Region.ready .any ops listed := by
  have hx : x ∈ l1 ++ x :: l2 := by simp
  simp only [chOk1, Bool.and_eq_true, List.all_eq_true, decide_eq_true_eq, Bool.not_eq_true'] at hc
  obtain ⟨h1, h2⟩ := hc
  have un : ∀ k ∈ x.c.nums, ¬ x.st.seen x.c k → listed.getD k false = false := fun k hk hns => h.unseen hx hk (h1 k hk).2.2 (hdn k hk) hns
  have hL : ∀ k, (L0.getD k false || ((l1.map It.c).flatMap Chn.nums).contains k) = true → listed.getD k false = true := fun k hk => by
    rw [Bool.or_eq_true] at hk
    rcases hk with hk | hk
    · exact (h.list k).2 (.inl hk)
    · rw [List.contains_iff_mem] at hk
      obtain ⟨c, hc, hk⟩ := List.mem_flatMap.1 hk
      obtain ⟨y, hy, rfl⟩ := List.mem_map.1 hc
      obtain ⟨r, S, V, v, e⟩ := ho y hy
      exact (h.list k).2 (.inr (.inr ⟨y, by simp [hy], by rw [e]; exact hk⟩))
  unfold chD at hd
  cases hm : x.c.mid with
  | none =>
    rw [hm] at hd
    simp only [List.all_eq_true] at hd
    cases hs : x.st with
    | no =>
      have hk := num_mem x.c
      exact ⟨x.c.num, ready_iff.2 ⟨⟨by rw [h.size]; exact (h1 _ hk).2.1, un _ hk (by rw [hs]; exact fun h => h)⟩, (h1 _ hk).1, fun k hk' => hL k (hd k hk')⟩⟩
    | mid g =>
      have := h.ok x hx
      rw [hs] at this
      obtain ⟨⟨i, d, e, _⟩, _⟩ := this
      rw [hm] at e; cases e
    | done r S V v => exact absurd ⟨r, S, V, v, hs⟩ hn
  | some m =>
    rw [hm] at hd h2
    simp only [Bool.and_eq_true, List.all_eq_true, bne_iff_ne] at hd h2
    obtain ⟨h4, h6⟩ := hd
    have h3 := h2.1
    have hk := num_mem x.c
    have hk0 : m.1 ∈ x.c.nums := by simp [Chn.nums, hm]
    cases hs : x.st with
    | no => exact ⟨m.1, ready_iff.2 ⟨⟨by rw [h.size]; exact (h1 _ hk0).2.1, un _ hk0 (by rw [hs]; exact fun h => h)⟩, (h1 _ hk0).1, fun k hk' => hL k (h4 k hk')⟩⟩
    | mid g =>
      refine ⟨x.c.num, ready_iff.2 ⟨⟨by rw [h.size]; exact (h1 _ hk).2.1, un _ hk (by rw [hs]; rintro ⟨d, e⟩; rw [hm] at e; cases e; exact h3 rfl)⟩, (h1 _ hk).1, fun k hk' => ?_⟩⟩
      have h7 := h6 k hk'
      rw [Bool.or_eq_true, beq_iff_eq] at h7
      rcases h7 with rfl | h7
      · exact (h.list _).2 (.inr (.inr ⟨x, hx, by rw [hs]; exact ⟨m.2, hm⟩⟩))
      · exact hL k h7
    | done r S V v => exact absurd ⟨r, S, V, v, hs⟩ hn

end
end Go.Proofs.Ythlhmpknngidmaa.E

namespace Go.Proofs.Ythlhmpknngidmaa.E
open Go Go.RowKit
set_option linter.unusedVariables false
set_option linter.unusedSimpArgs false

section
variable {P : Program} {N : Nat} {ops : Array Oper} {sB : Slots} {RB : List Res} {WB : Wit} {a0 : Act} {w0 : World} {L0 : Array Bool} {ed : List Nat}

theorem MInv.join {l : List It} {dn : List Nat} {D : Slots} {U : List Res} {W V : Wit} {S : List Res} {listed : Array Bool} {a : Act} {w : World} (h : MInv P N ops sB RB WB a0 w0 L0 ed l dn D U W listed a w) (hv : Sep w V S) (hS : S.all Res.own = true)
    (hf : ∀ i b, V.fs i b → w0.heap.size ≤ b ∧ ∃ x ∈ l, x.st.fp b) :
    Trans w0 WB RB w (Wit.join (RB ++ U).length W V) ((RB ++ U) ++ S.map (Res.sh (RB ++ U).length)) ∧ Sep w (Wit.join (RB ++ U).length W V) ((RB ++ U) ++ S.map (Res.sh (RB ++ U).length)) := by
  have hd : ∀ i j b, W.fs i b → ¬ V.fs j b := fun i j b hi hj => by
    obtain ⟨_, x, hx, hp⟩ := hf j b hj
    exact h.fpW x hx b hp i hi
  have hlen : RB.length ≤ (RB ++ U).length := by simp
  have tr : Trans w0 WB RB w (Wit.join (RB ++ U).length W V) ((RB ++ U) ++ S.map (Res.sh (RB ++ U).length)) := by
    refine ⟨h.below.os, h.below.tape, h.below.output, h.below.size, fun b hb => h.below.block b hb.1, fun i b hi => ?_, fun i => ?_⟩
    · simp only [Wit.join] at hi
      split at hi
      · rcases Nat.lt_or_ge i RB.length with h' | h'
        · exact .inl ⟨i, ((h.stab i h').2 b).1 hi⟩
        · exact .inr (h.fresh i b h' hi)
      · exact .inr (hf _ b hi).1
    · rcases Nat.lt_or_ge i RB.length with hi | hi
      · rw [List.append_assoc, List.getElem?_append_left hi]
        have hi2 : i < (RB ++ U).length := by omega
        have : (Wit.join (RB ++ U).length W V).hs i = WB.hs i := by simp only [Wit.join, hi2, if_true]; exact (h.stab i hi).1
        rw [this]; exact Goes.refl _ _
      · rw [List.getElem?_eq_none hi]; exact trivial
  refine ⟨tr, fun i r hr => ?_, fun i hi b hb' => ?_, fun i hi b hb' => ?_, fun i j b hi hj => ?_, fun i b hi => ?_⟩
  · rcases Nat.lt_or_ge i (RB ++ U).length with hi | hi
    · rw [List.getElem?_append_left hi] at hr
      have e1 : (Wit.join (RB ++ U).length W V).hs i = W.hs i := by simp only [Wit.join, hi, if_true]
      have e2 : (Wit.join (RB ++ U).length W V).fs i = W.fs i := by funext b; simp only [Wit.join, hi, if_true]
      rw [e1, e2]
      rcases Nat.lt_or_ge i RB.length with h' | h'
      · rw [List.getElem?_append_left h'] at hr
        obtain ⟨s1, s2⟩ := h.stab i h'
        have s3 : W.fs i = WB.fs i := funext fun b => propext (s2 b)
        rw [s1, s3]
        exact (h.base.sep.res i r hr).next tr fun b hb' => h.below.block b (h.base.sep.lt i b hb')
      · have hr0 := h.now.sep.res i r (by rw [List.getElem?_append_right h'] at hr ⊢; exact hr)
        rw [List.getElem?_append_right h'] at hr
        cases r with
        | box cs =>
          obtain ⟨b, arr, e, f1, f2, f3, f4⟩ := hr0
          have hown : Res.own (.box cs) = true := List.all_eq_true.1 h.ownU _ (List.mem_of_getElem? hr)
          exact ⟨b, arr, e, f1, f2, f3, f4.more hown⟩
        | row e k rows => exact hr0
        | gone => trivial
        | pin x u =>
          obtain ⟨f1, f2⟩ := hr0
          have hown : Res.own (.pin x u) = true := List.all_eq_true.1 h.ownU _ (List.mem_of_getElem? hr)
          exact ⟨f1, f2.more (by simpa [AC.own.owns, Res.own] using hown)⟩
    · have hr' := hr
      rw [show i = (RB ++ U).length + (i - (RB ++ U).length) by omega] at hr'
      obtain ⟨r0, e1, rfl⟩ := join_back hr'
      have e2 : (Wit.join (RB ++ U).length W V).hs i = V.hs (i - (RB ++ U).length) := by simp only [Wit.join, show ¬ i < (RB ++ U).length by omega, if_false]
      have e3 : (Wit.join (RB ++ U).length W V).fs i = V.fs (i - (RB ++ U).length) := by funext b; simp only [Wit.join, show ¬ i < (RB ++ U).length by omega, if_false]
      rw [e2, e3]
      have hr0 := hv.res _ _ e1
      cases r0 with
      | box cs =>
        obtain ⟨b, arr, e, f1, f2, f3, f4⟩ := hr0
        have hown : Res.own (.box cs) = true := List.all_eq_true.1 hS _ (List.mem_of_getElem? e1)
        exact ⟨b, arr, e, f1, f2, f3, f4.sh hown⟩
      | row e k rows => exact hr0
      | gone => trivial
      | pin x u =>
        obtain ⟨f1, f2⟩ := hr0
        have hown : Res.own (.pin x u) = true := List.all_eq_true.1 hS _ (List.mem_of_getElem? e1)
        exact ⟨f1, f2.sh (by simpa [AC.own.owns, Res.own] using hown)⟩
  · simp only [Wit.join] at hb'
    simp only [List.length_append, List.length_map] at hi
    rw [if_neg (by simp; omega)] at hb'
    exact hv.out _ (by simp; omega) b hb'
  · simp only [Wit.join] at hb'
    rcases Nat.lt_or_ge i (RB ++ U).length with h' | h'
    · rw [List.getElem?_append_left h'] at hi
      rw [if_pos h'] at hb'
      exact h.now.sep.gone i hi b hb'
    · rw [if_neg (by omega)] at hb'
      rw [show i = (RB ++ U).length + (i - (RB ++ U).length) by omega] at hi
      obtain ⟨r0, e1, e2⟩ := join_back hi
      have : r0 = .gone := by cases r0 <;> first | rfl | cases e2
      rw [this] at e1
      exact hv.gone _ e1 b hb'
  · simp only [Wit.join] at hi hj
    split at hi <;> split at hj
    · exact h.now.sep.apart i j b hi hj
    · exact absurd hj (hd _ _ b hi)
    · exact absurd hi (hd _ _ b hj)
    · have := hv.apart _ _ b hi hj; omega
  · simp only [Wit.join] at hi
    split at hi
    · exact h.now.sep.lt i b hi
    · exact hv.lt _ b hi
end

section
variable {P : Program} {N : Nat} {s : Slots} {R : List Res} {ops : Array Oper}
variable {md : List Nat} {KF : Slots → List Res → Prop} {ms : List (Nat × Bool)} {i d : Nat} {o : Oper}
end

end Go.Proofs.Ythlhmpknngidmaa.E

namespace Go.Proofs.Ythlhmpknngidmaa.E
open Go Go.RowKit
set_option linter.unusedVariables false
set_option linter.unusedSimpArgs false

theorem ints_lenApp (xs ys : List Int) : xs.length + (ints ys).length = (xs ++ ys).length := by simp [ints_len]
end Go.Proofs.Ythlhmpknngidmaa.E

namespace Go.Proofs.Ythlhmpknngidmaa.E
open Go Go.RowKit
set_option linter.unusedVariables false
set_option linter.unusedSimpArgs false

section
variable {P : Program} {N : Nat} {ops : Array Oper} {s s1 : Slots} {R R1 : List Res} {K : Slots → List Res → Prop} {fuel : Nat} {listed listed' : Array Bool}

end
end Go.Proofs.Ythlhmpknngidmaa.E

namespace Go.Proofs.Ythlhmpknngidmaa.E
open Go Go.RowKit
set_option linter.unusedVariables false
set_option linter.unusedSimpArgs false

section
variable {P : Program} {N n : Nat} {ops : Array Oper} {s : Slots} {R RB : List Res} {K : Slots → List Res → Prop} {fuel : Nat} {listed listed' : Array Bool}

def boxKeep : List Res → List Res → Bool
  | [], _ => true
  | .box _ :: l, .box _ :: m => boxKeep l m
  | .box _ :: _, _ => false
  | _ :: l, _ :: m => boxKeep l m
  | _ :: _, [] => false
theorem boxKeep_at : ∀ {l m : List Res}, boxKeep l m = true → ∀ (j : Nat) (cs : List AC), l[j]? = some (Res.box cs) → ∃ cs' : List AC, m[j]? = some (Res.box cs')
  | [], _, _, j, cs, h => by simp at h
  | .box _ :: l, .box c :: m, hk, 0, cs, h => ⟨c, rfl⟩
  | .box _ :: l, .box c :: m, hk, j + 1, cs, h => boxKeep_at (l := l) (m := m) (by simpa [boxKeep] using hk) j cs (by simpa using h)
  | .box _ :: _, [], hk, _, _, _ => by simp [boxKeep] at hk
  | .box _ :: _, .row _ _ _ :: _, hk, _, _, _ => by simp [boxKeep] at hk
  | .box _ :: _, .gone :: _, hk, _, _, _ => by simp [boxKeep] at hk
  | .box _ :: _, .pin _ _ :: _, hk, _, _, _ => by simp [boxKeep] at hk
  | .row _ _ _ :: l, [], hk, _, _, _ => by simp [boxKeep] at hk
  | .gone :: l, [], hk, _, _, _ => by simp [boxKeep] at hk
  | .pin _ _ :: l, [], hk, _, _, _ => by simp [boxKeep] at hk
  | .row _ _ _ :: l, _ :: m, hk, 0, cs, h => by simp at h
  | .gone :: l, _ :: m, hk, 0, cs, h => by simp at h
  | .pin _ _ :: l, _ :: m, hk, 0, cs, h => by simp at h
  | .row _ _ _ :: l, _ :: m, hk, j + 1, cs, h => boxKeep_at (l := l) (m := m) (by simpa [boxKeep] using hk) j cs (by simpa using h)
  | .gone :: l, _ :: m, hk, j + 1, cs, h => boxKeep_at (l := l) (m := m) (by simpa [boxKeep] using hk) j cs (by simpa using h)
  | .pin _ _ :: l, _ :: m, hk, j + 1, cs, h => boxKeep_at (l := l) (m := m) (by simpa [boxKeep] using hk) j cs (by simpa using h)

theorem box_block {wB w : World} {WB W : Wit} (hsB : Sep wB WB RB) (ht : Trans wB WB RB w W R) (hs : Sep w W R) {j : Nat} {cs cs' : List AC} (h1 : RB[j]? = some (.box cs)) (h2 : R[j]? = some (.box cs')) (c : Nat) : WB.fs j c ↔ W.fs j c := by
  obtain ⟨b, arr, e, k1, k2, -, -⟩ := hsB.res j _ h1
  obtain ⟨b', arr', e', k1', k2', -, -⟩ := hs.res j _ h2
  have hg := ht.goes j
  rw [h1, h2] at hg
  have hg' : W.hs j = WB.hs j := hg
  rw [hg', k1] at k1'
  obtain rfl : b = b' := by cases k1'; rfl
  rw [k2 c, k2' c]

end
end Go.Proofs.Ythlhmpknngidmaa.E

namespace Go.Proofs.Ythlhmpknngidmaa.E
open Go Go.RowKit
set_option linter.unusedVariables false
set_option linter.unusedSimpArgs false

end Go.Proofs.Ythlhmpknngidmaa.E

namespace Go.Proofs.Ythlhmpknngidmaa.E
open Go Go.RowKit
set_option linter.unusedVariables false
set_option linter.unusedSimpArgs false
end Go.Proofs.Ythlhmpknngidmaa.E
