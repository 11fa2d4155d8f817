/- Words of the session's own, put together: part 3. -/
import Derived.Test.YthlhmpknngidmaaF2
import Derived.Deep.AppendSrc
import Derived.Laws.IdiomCopy
namespace Go.Proofs.Ythlhmpknngidmaa.E
open Go Go.RowKit
set_option linter.unusedVariables false
set_option linter.unusedSimpArgs false

/-! ### 1. What a callee has made, laid behind one's own -/
theorem Sep.frame {w w' : World} {W V : Wit} {R S : List Res} (hs : Sep w W R) (hb : Below w.heap.size w w') (k3 : Sep w' V S) (q2 : S.all Res.own = true) (hnew : ∀ i b, V.fs i b → w.heap.size ≤ b) :
    Trans w W R w' (Wit.join R.length W V) (R ++ S.map (Res.sh R.length)) ∧ Sep w' (Wit.join R.length W V) (R ++ S.map (Res.sh R.length)) := by
  have tr : Trans w W R w' (Wit.join R.length W V) (R ++ S.map (Res.sh R.length)) := by
    refine ⟨hb.os, hb.tape, hb.output, hb.size, fun b hb' => hb.block b hb'.1, fun i b hi => ?_, fun i => ?_⟩
    · simp only [Wit.join] at hi
      split at hi
      · exact .inl ⟨i, hi⟩
      · exact .inr (hnew _ b hi)
    · rcases Nat.lt_or_ge i R.length with hi | hi
      · rw [List.getElem?_append_left hi]
        have : (Wit.join R.length W V).hs i = W.hs i := by simp [Wit.join, hi]
        rw [this]; exact Goes.refl _ _
      · rw [List.getElem?_eq_none hi]; exact trivial
  refine ⟨tr, fun i r hr => ?_, fun i hi b hb' => ?_, fun i hi b hb' => ?_, fun i j b hi hj => ?_, fun i b hi => ?_⟩
  · rcases Nat.lt_or_ge i R.length with hi | hi
    · rw [List.getElem?_append_left hi] at hr
      have e1 : (Wit.join R.length W V).hs i = W.hs i := by simp [Wit.join, hi]
      have e2 : (Wit.join R.length W V).fs i = W.fs i := by funext b; simp [Wit.join, hi]
      rw [e1, e2]
      exact (hs.res i r hr).next tr fun b hb' => hb.block b (hs.lt i b hb')
    · have hr' := hr
      rw [show i = R.length + (i - R.length) by omega] at hr'
      obtain ⟨r0, e1, rfl⟩ := join_back hr'
      have e2 : (Wit.join R.length W V).hs i = V.hs (i - R.length) := by simp [Wit.join, show ¬ i < R.length by omega]
      have e3 : (Wit.join R.length W V).fs i = V.fs (i - R.length) := by funext b; simp [Wit.join, show ¬ i < R.length by omega]
      rw [e2, e3]
      have hr0 := k3.res _ _ e1
      cases r0 with
      | box cs =>
        obtain ⟨b, arr, e, f1, f2, f3, f4⟩ := hr0
        have hown : Res.own (.box cs) = true := List.all_eq_true.1 q2 _ (List.mem_of_getElem? e1)
        exact ⟨b, arr, e, f1, f2, f3, f4.sh hown⟩
      | row e k rows => exact hr0
      | gone => trivial
      | pin x u =>
        obtain ⟨f1, f2⟩ := hr0
        have hown : Res.own (.pin x u) = true := List.all_eq_true.1 q2 _ (List.mem_of_getElem? e1)
        exact ⟨f1, f2.sh (by simpa [AC.own.owns, Res.own] using hown)⟩
  · simp only [Wit.join] at hb'
    simp only [List.length_append, List.length_map] at hi
    rw [if_neg (by omega)] at hb'
    exact k3.out _ (by omega) b hb'
  · simp only [Wit.join] at hb'
    rcases Nat.lt_or_ge i R.length with h' | h'
    · rw [List.getElem?_append_left h'] at hi
      rw [if_pos h'] at hb'
      exact hs.gone i hi b hb'
    · rw [if_neg (by omega)] at hb'
      rw [show i = R.length + (i - R.length) by omega] at hi
      obtain ⟨r0, e1, e2⟩ := join_back hi
      have : r0 = .gone := by cases r0 <;> first | rfl | cases e2
      rw [this] at e1
      exact k3.gone _ e1 b hb'
  · simp only [Wit.join] at hi hj
    split at hi <;> split at hj
    · exact hs.apart i j b hi hj
    · exact absurd (hs.lt i b hi) (by have := hnew _ b hj; omega)
    · exact absurd (hs.lt j b hj) (by have := hnew _ b hi; omega)
    · have := k3.apart _ _ b hi hj; omega
  · simp only [Wit.join] at hi
    split at hi
    · exact Nat.lt_of_lt_of_le (hs.lt i b hi) hb.size
    · exact k3.lt _ b hi

/-- Blocks stay. -/
theorem Sep.stay {w w' : World} {V : Wit} {S : List Res} (hs : Sep w V S) (ho : w'.os = w.os) (ht : w'.tape = w.tape) (hu : w'.output = w.output) (hz : w.heap.size ≤ w'.heap.size) (hb : ∀ b, b < w.heap.size → (∀ i, ¬ V.fs i b) → w'.heap[b]? = w.heap[b]?) (hf : ∀ i b, V.fs i b → w'.heap[b]? = w.heap[b]?) :
    Trans w V S w' V S ∧ Sep w' V S := by
  have tr : Trans w V S w' V S := ⟨ho, ht, hu, hz, fun b hb' => hb b hb'.1 hb'.2, fun i b h => .inl ⟨i, h⟩, fun i => Goes.refl _ _⟩
  exact ⟨tr, fun i r hr => (hs.res i r hr).next tr fun b hb' => hf i b hb', hs.out, hs.gone, hs.apart, fun i b h => Nat.lt_of_lt_of_le (hs.lt i b h) hz⟩

/-! ### 2. Two things of one's own, side by side -/
theorem AR.more {W V : Wit} {R S : List Res} {w : World} {cs : List AC} {vs : List Value} (h : AR W R w cs vs) : AC.own.owns cs = true → AR (Wit.join R.length W V) (R ++ S) w cs vs := by
  have hh : ∀ i, i < R.length → (Wit.join R.length W V).hs i = W.hs i := fun i hi => by simp [Wit.join, hi]
  have hl : ∀ i, i < R.length → i < (R ++ S).length := fun i hi => by simp; omega
  have hg : ∀ i, i < R.length → (R ++ S)[i]? = R[i]? := fun i hi => List.getElem?_append_left hi
  induction h with
  | nil => intro _; exact .nil
  | sc h1 _ ih => intro ho; exact .sc h1 (ih (by simpa [AC.own.owns, AC.own] using ho))
  | any h1 _ ih => intro ho; exact .any h1 (ih (by simpa [AC.own.owns, AC.own] using ho))
  | ro h1 _ ih => intro ho; simp [AC.own.owns, AC.own] at ho
  | rp b o inner h1 h2 h3 h4 _ ih => intro ho; simp [AC.own.owns, AC.own] at ho
  | fn _ _ ih1 ih2 =>
    intro ho
    simp only [AC.own.owns, AC.own, Bool.and_eq_true] at ho
    exact .fn (ih1 ho.1) (ih2 ho.2)
  | sl h1 h2 h3 _ ih => intro ho; exact .sl h1 (hl _ h2) (fun e k rows hr => by rw [hg _ h2] at hr; rw [hh _ h2]; exact h3 e k rows hr) (ih (by simpa [AC.own.owns, AC.own] using ho))
  | ep h1 h2 h3 _ ih => intro ho; exact .ep h1 (hl _ h2) (fun e k rows hr => by rw [hg _ h2] at hr; rw [hh _ h2]; exact h3 e k rows hr) (ih (by simpa [AC.own.owns, AC.own] using ho))
  | bp h1 h2 h3 _ ih => intro ho; exact .bp h1 (hl _ h2) (fun xs hr => by rw [hg _ h2] at hr; rw [hh _ h2]; exact h3 xs hr) (ih (by simpa [AC.own.owns, AC.own] using ho))

theorem AVR.more {W V : Wit} {R S : List Res} {w : World} {x : AV} {v : Value} (h : AVR W R w x v) (ho : x.own = true) : AVR (Wit.join R.length W V) (R ++ S) w x v := by
  cases x with
  | c x => exact AR.more (show AR W R w [x] [v] from h) (by simpa [AC.own.owns, AV.own] using ho)
  | agg xs => obtain ⟨vs, e, h⟩ := h; exact ⟨vs, e, h.more ho⟩
  | tup xs =>
    obtain ⟨us, e, hl, h⟩ := h
    refine ⟨us, e, hl, fun i y u h1 h2 => ?_⟩
    obtain ⟨vs, e1, e2⟩ := h i y u h1 h2
    have hz : AC.own.owns y.2 = true := by
      simp only [AV.own, List.all_eq_true] at ho
      exact ho y (List.mem_of_getElem? h1)
    exact ⟨vs, e1, e2.more hz⟩
  | any => trivial

theorem Sep.side {w : World} {W V : Wit} {R S : List Res} (hs : Sep w W R) (hv : Sep w V S) (q1 : R.all Res.own = true) (q2 : S.all Res.own = true) (hd : ∀ i j b, W.fs i b → ¬ V.fs j b) :
    Sep w (Wit.join R.length W V) (R ++ S.map (Res.sh R.length)) := by
  refine ⟨fun i r hr => ?_, fun i hi b hb' => ?_, fun i hi b hb' => ?_, fun i j b hi hj => ?_, fun i b hi => ?_⟩
  · rcases Nat.lt_or_ge i R.length with hi | hi
    · rw [List.getElem?_append_left hi] at hr
      have e1 : (Wit.join R.length W V).hs i = W.hs i := by simp [Wit.join, hi]
      have e2 : (Wit.join R.length W V).fs i = W.fs i := by funext b; simp [Wit.join, hi]
      rw [e1, e2]
      have hr0 := hs.res i r hr
      cases r with
      | box cs =>
        obtain ⟨b, arr, e, f1, f2, f3, f4⟩ := hr0
        have hown : Res.own (.box cs) = true := List.all_eq_true.1 q1 _ (List.mem_of_getElem? hr)
        exact ⟨b, arr, e, f1, f2, f3, f4.more hown⟩
      | row e k rows => exact hr0
      | gone => trivial
      | pin x u =>
        obtain ⟨f1, f2⟩ := hr0
        have hown : Res.own (.pin x u) = true := List.all_eq_true.1 q1 _ (List.mem_of_getElem? hr)
        exact ⟨f1, f2.more (by simpa [AC.own.owns, Res.own] using hown)⟩
    · have hr' := hr
      rw [show i = R.length + (i - R.length) by omega] at hr'
      obtain ⟨r0, e1, rfl⟩ := join_back hr'
      have e2 : (Wit.join R.length W V).hs i = V.hs (i - R.length) := by simp [Wit.join, show ¬ i < R.length by omega]
      have e3 : (Wit.join R.length W V).fs i = V.fs (i - R.length) := by funext b; simp [Wit.join, show ¬ i < R.length by omega]
      rw [e2, e3]
      have hr0 := hv.res _ _ e1
      cases r0 with
      | box cs =>
        obtain ⟨b, arr, e, f1, f2, f3, f4⟩ := hr0
        have hown : Res.own (.box cs) = true := List.all_eq_true.1 q2 _ (List.mem_of_getElem? e1)
        exact ⟨b, arr, e, f1, f2, f3, f4.sh hown⟩
      | row e k rows => exact hr0
      | gone => trivial
      | pin x u =>
        obtain ⟨f1, f2⟩ := hr0
        have hown : Res.own (.pin x u) = true := List.all_eq_true.1 q2 _ (List.mem_of_getElem? e1)
        exact ⟨f1, f2.sh (by simpa [AC.own.owns, Res.own] using hown)⟩
  · simp only [Wit.join] at hb'
    simp only [List.length_append, List.length_map] at hi
    rw [if_neg (by omega)] at hb'
    exact hv.out _ (by omega) b hb'
  · simp only [Wit.join] at hb'
    rcases Nat.lt_or_ge i R.length with h' | h'
    · rw [List.getElem?_append_left h'] at hi
      rw [if_pos h'] at hb'
      exact hs.gone i hi b hb'
    · rw [if_neg (by omega)] at hb'
      rw [show i = R.length + (i - R.length) by omega] at hi
      obtain ⟨r0, e1, e2⟩ := join_back hi
      have : r0 = .gone := by cases r0 <;> first | rfl | cases e2
      rw [this] at e1
      exact hv.gone _ e1 b hb'
  · simp only [Wit.join] at hi hj
    split at hi <;> split at hj
    · exact hs.apart i j b hi hj
    · exact absurd hj (hd _ _ b hi)
    · exact absurd hi (hd _ _ b hj)
    · have := hv.apart _ _ b hi hj; omega
  · simp only [Wit.join] at hi
    split at hi
    · exact hs.lt i b hi
    · exact hv.lt _ b hi

theorem sh_sh (n m : Nat) : ∀ (c : AC), (c.sh m).sh n = c.sh (n + m)
  | .sl i off len tot => by simp [AC.sh, Nat.add_assoc]
  | .bp i off => by simp [AC.sh, Nat.add_assoc]
  | .ep i j off tot => by simp [AC.sh, Nat.add_assoc]
  | .fn f caps => by simp [AC.sh, shs_shs n m caps]
  | .sc _ => rfl
  | .ro _ => rfl
  | .rp _ => rfl
  | .any => rfl
where shs_shs (n m : Nat) : ∀ (cs : List AC), AC.sh.shs n (AC.sh.shs m cs) = AC.sh.shs (n + m) cs
  | [] => rfl
  | c :: cs => by simp [AC.sh.shs, sh_sh n m c, shs_shs n m cs]

theorem av_sh_sh (n m : Nat) (x : AV) : (x.sh m).sh n = x.sh (n + m) := by
  cases x with
  | c x => simp [AV.sh, sh_sh]
  | agg xs => simp [AV.sh, sh_sh.shs_shs]
  | tup xs => simp [AV.sh, sh_sh.shs_shs]
  | any => rfl
theorem res_sh_sh (n m : Nat) (x : Res) : (x.sh m).sh n = x.sh (n + m) := by
  cases x <;> simp [Res.sh, sh_sh.shs_shs, sh_sh]

theorem sh_own (n : Nat) : ∀ (c : AC), (c.sh n).own = c.own
  | .sl .. => rfl
  | .bp .. => rfl
  | .ep .. => rfl
  | .fn f caps => by simp [AC.sh, AC.own, shs_own n caps]
  | .sc _ => rfl
  | .ro _ => rfl
  | .rp _ => rfl
  | .any => rfl
where shs_own (n : Nat) : ∀ (cs : List AC), AC.own.owns (AC.sh.shs n cs) = AC.own.owns cs
  | [] => rfl
  | c :: cs => by simp [AC.sh.shs, AC.own.owns, sh_own n c, shs_own n cs]
theorem av_sh_own (n : Nat) (x : AV) : (x.sh n).own = x.own := by
  cases x with
  | c x => simp [AV.sh, AV.own, sh_own]
  | agg xs => simp [AV.sh, AV.own, sh_own.shs_own]
  | tup xs => simp [AV.sh, AV.own, sh_own.shs_own, Function.comp_def]
  | any => rfl
theorem res_sh_own (n : Nat) (x : Res) : (x.sh n).own = x.own := by cases x <;> simp [Res.sh, Res.own, sh_own.shs_own, sh_own]
theorem res_shs_own (n : Nat) (S : List Res) : (S.map (Res.sh n)).all Res.own = S.all Res.own := by
  induction S with
  | nil => rfl
  | cons r S ih => simp only [List.map_cons, List.all_cons, res_sh_own, ih]

/-! ### 3. Chains: a call, or an empty slice and what is appended to it -/
structure Chn where
  mid : Option (Nat × Nat)
  num : Nat
  dst : Nat
  e : TypeId

def Chn.nums (c : Chn) : List Nat := match c.mid with | some x => [x.1, c.num] | none => [c.num]
def Chn.dsts (c : Chn) : List Nat := match c.mid with | some x => [x.2, c.dst] | none => [c.dst]

/-- An operation that makes something by itself. -/
def FOp (P : Program) (N : Nat) (o : Oper) (s : Slots) (R : List Res) (Q : AV → List Res → Prop) : Prop :=
  ∀ Qx a w W, Now N s R a w W → o.wp P a w (fun a' w' => Below w.heap.size w w' ∧ ∃ r S V v, Q r S ∧ r.own = true ∧ S.all Res.own = true ∧ a' = a.put o.dst v ∧ AVR V S w' r v ∧ Sep w' V S ∧ ∀ i b, V.fs i b → w.heap.size ≤ b) Qx
def FOp0 (P : Program) (o : Oper) (e : TypeId) : Prop :=
  ∀ Qx a w, o.wp P a w (fun a' w' => a' = a.put o.dst (.slice (some ⟨w.heap.size, 0, none⟩) 0 0) ∧ w' = w.alloc (.cells #[] e)) Qx
def FOp1 (P : Program) (N : Nat) (o : Oper) (dm : Nat) (e : TypeId) (s : Slots) (R : List Res) (Q : AV → List Res → Prop) : Prop :=
  ∀ Qx a w W g, Now N s R a w W → a.tmps.getD dm undef = .slice (some ⟨g, 0, none⟩) 0 0 → w.heap[g]? = some (.cells #[] e (0, 0)) → o.wp P a w (fun a' w' => Below w.heap.size w w' ∧
    ∃ r S V v, Q r S ∧ r.own = true ∧ S.all Res.own = true ∧ a' = a.put o.dst v ∧ AVR V S w' r v ∧ Sep w' V S ∧ ∀ i b, V.fs i b → b = g ∨ w.heap.size ≤ b) Qx

inductive ChOk (P : Program) (N : Nat) (ops : Array Oper) (s : Slots) (R : List Res) : Chn → (AV → List Res → Prop) → Prop
  | one {i d e : Nat} {o : Oper} {Q : AV → List Res → Prop} : ops[i]? = some o → want ops o s = some true → o.dst = some d → d < N → FOp P N o s R Q → ChOk P N ops s R ⟨none, i, d, e⟩ Q
  | two {im dm i d e : Nat} {o om : Oper} {Q : AV → List Res → Prop} : ops[im]? = some om → want ops om s = some true → om.dst = some dm → dm < N → FOp0 P om e → ops[i]? = some o → want ops o s = some true → o.dst = some d → d < N → FOp1 P N o dm e s R Q → ChOk P N ops s R ⟨some (im, dm), i, d, e⟩ Q

inductive St where
  | no
  | mid (g : Nat)
  | done (r : AV) (S : List Res) (V : Wit) (v : Value)

def St.fp : St → Nat → Prop
  | .no, _ => False
  | .mid g, b => b = g
  | .done _ _ V _, b => ∃ i, V.fs i b
def St.seen (c : Chn) : St → Nat → Prop
  | .no, _ => False
  | .mid _, k => ∃ d, c.mid = some (k, d)
  | .done _ _ _ _, k => k ∈ c.nums
def St.left (c : Chn) : St → Nat
  | .no => c.nums.length
  | .mid _ => 1
  | .done _ _ _ _ => 0
def St.Ok (c : Chn) (Q : AV → List Res → Prop) (a : Act) (w : World) : St → Prop
  | .no => True
  | .mid g => (∃ i d, c.mid = some (i, d) ∧ a.tmps.getD d undef = .slice (some ⟨g, 0, none⟩) 0 0) ∧ w.heap[g]? = some (.cells #[] c.e (0, 0))
  | .done r S V v => Q r S ∧ r.own = true ∧ S.all Res.own = true ∧ AVR V S w r v ∧ Sep w V S ∧ a.tmps.getD c.dst undef = v

structure It where
  c : Chn
  Q : AV → List Res → Prop
  st : St

def Apart (x y : It) : Prop := (∀ k ∈ x.c.nums, k ∉ y.c.nums) ∧ (∀ d ∈ x.c.dsts, d ∉ y.c.dsts) ∧ ∀ b, x.st.fp b → ¬ y.st.fp b

theorem AR.anyw {V : Wit} {S : List Res} {w w' : World} {cs : List AC} {vs : List Value} (h : AR V S w cs vs) : AC.own.owns cs = true → AR V S w' cs vs := by
  induction h with
  | nil => intro _; exact .nil
  | sc h1 _ ih => intro ho; exact .sc h1 (ih (by simpa [AC.own.owns, AC.own] using ho))
  | any h1 _ ih => intro ho; exact .any h1 (ih (by simpa [AC.own.owns, AC.own] using ho))
  | ro h1 _ ih => intro ho; simp [AC.own.owns, AC.own] at ho
  | rp b o inner h1 h2 h3 h4 _ ih => intro ho; simp [AC.own.owns, AC.own] at ho
  | fn _ _ ih1 ih2 =>
    intro ho
    simp only [AC.own.owns, AC.own, Bool.and_eq_true] at ho
    exact .fn (ih1 ho.1) (ih2 ho.2)
  | sl h1 h2 h3 _ ih => intro ho; exact .sl h1 h2 h3 (ih (by simpa [AC.own.owns, AC.own] using ho))
  | ep h1 h2 h3 _ ih => intro ho; exact .ep h1 h2 h3 (ih (by simpa [AC.own.owns, AC.own] using ho))
  | bp h1 h2 h3 _ ih => intro ho; exact .bp h1 h2 h3 (ih (by simpa [AC.own.owns, AC.own] using ho))

theorem AVR.anyw {V : Wit} {S : List Res} {w w' : World} {x : AV} {v : Value} (h : AVR V S w x v) (ho : x.own = true) : AVR V S w' x v := by
  cases x with
  | c x => exact AR.anyw (show AR V S w [x] [v] from h) (by simpa [AC.own.owns, AV.own] using ho)
  | agg xs => obtain ⟨vs, e, h⟩ := h; exact ⟨vs, e, h.anyw ho⟩
  | tup xs =>
    obtain ⟨us, e, hl, h⟩ := h
    refine ⟨us, e, hl, fun i y u h1 h2 => ?_⟩
    obtain ⟨vs, e1, e2⟩ := h i y u h1 h2
    have hz : AC.own.owns y.2 = true := by
      simp only [AV.own, List.all_eq_true] at ho
      exact ho y (List.mem_of_getElem? h1)
    exact ⟨vs, e1, e2.anyw hz⟩
  | any => trivial

theorem Sep.anyw {V : Wit} {S : List Res} {w w' : World} (hs : Sep w V S) (ho : S.all Res.own = true) (hz : w.heap.size ≤ w'.heap.size) (hf : ∀ i b, V.fs i b → w'.heap[b]? = w.heap[b]?) : Sep w' V S := by
  refine ⟨fun i r hr => ?_, hs.out, hs.gone, hs.apart, fun i b h => Nat.lt_of_lt_of_le (hs.lt i b h) hz⟩
  have h0 := hs.res i r hr
  cases r with
  | box cs =>
    obtain ⟨b, arr, e, h1, h2, h3, h4⟩ := h0
    exact ⟨b, arr, e, h1, h2, by rw [hf i b ((h2 b).2 rfl)]; exact h3, h4.anyw (List.all_eq_true.1 ho _ (List.mem_of_getElem? hr))⟩
  | row e k rows =>
    obtain ⟨h1, h2, cells, G, h3, h4, h5, h6⟩ := h0
    exact ⟨h1, h2, cells, G, ownsRow_congr h3 fun b hb => hf i b ((h6 b).2 (.inl hb)), h4.mono fun b hb => hf i b ((h6 b).2 (.inr hb)), h5, h6⟩
  | gone => trivial
  | pin x u =>
    obtain ⟨h1, h2⟩ := h0
    exact ⟨h1, h2.anyw (by simpa [AC.own.owns, Res.own] using List.all_eq_true.1 ho _ (List.mem_of_getElem? hr))⟩

structure Inv (P : Program) (N : Nat) (ops : Array Oper) (s : Slots) (R : List Res) (W : Wit) (a0 : Act) (w0 : World) (L0 : Array Bool) (l : List It) (listed : Array Bool) (a : Act) (w : World) : Prop where
  now0 : Now N s R a0 w0 W
  tsize : a.tmps.size = N
  defers : a.defers = []
  below : Below w0.heap.size w0 w
  can : ∀ x ∈ l, ChOk P N ops s R x.c x.Q
  ok : ∀ x ∈ l, x.st.Ok x.c x.Q a w
  fp : ∀ x ∈ l, ∀ b, x.st.fp b → w0.heap.size ≤ b ∧ b < w.heap.size
  apart : l.Pairwise Apart
  size : listed.size = L0.size
  list : ∀ k, listed.getD k false = true ↔ (L0.getD k false = true ∨ ∃ x ∈ l, x.st.seen x.c k)
  closed : Closed .any ops listed
  same : ∀ t, (∀ x ∈ l, t ∉ x.c.dsts) → a.tmps.getD t undef = a0.tmps.getD t undef
  any : ∀ x ∈ l, ∀ d ∈ x.c.dsts, E.get s d = .any

theorem Inv.now {P : Program} {N : Nat} {ops : Array Oper} {s : Slots} {R : List Res} {W : Wit} {a0 : Act} {w0 : World} {L0 listed : Array Bool} {l : List It} {a : Act} {w : World} (h : Inv P N ops s R W a0 w0 L0 l listed a w) : Now N s R a w W := by
  have hs := h.now0.sep
  obtain ⟨tr, sp⟩ := hs.stay h.below.os h.below.tape h.below.output h.below.size (fun b hb _ => h.below.block b hb) (fun i b hb => h.below.block b (hs.lt i b hb))
  refine ⟨h.tsize, h.defers, fun t => ?_, sp⟩
  by_cases e : ∃ x ∈ l, t ∈ x.c.dsts
  · obtain ⟨x, hx, ht⟩ := e
    rw [h.any x hx t ht]; exact AVR.any ..
  · rw [h.same t fun x hx ht => e ⟨x, hx, ht⟩]
    exact (h.now0.val t).next tr

def todo (l : List It) : Nat := (l.map fun x => x.st.left x.c).sum

theorem put_getD {a : Act} {d t : Nat} {v : Value} (h : d ≠ t) : (a.put (some d) v).tmps.getD t undef = a.tmps.getD t undef := by
  simp [Act.put, Array.getD_eq_getD_getElem?, Array.getElem?_setIfInBounds, h]
theorem put_getD_self {a : Act} {d N : Nat} {v : Value} (h : d < N) (hs : a.tmps.size = N) : (a.put (some d) v).tmps.getD d undef = v := by
  subst hs
  simp [Act.put, Array.getD_eq_getD_getElem?, h]

theorem getD_set {L : Array Bool} {i k : Nat} (hi : i < L.size) : (L.setIfInBounds i true).getD k false = true ↔ (k = i ∨ L.getD k false = true) := by
  simp only [Array.getD_eq_getD_getElem?]
  by_cases e : i = k
  · subst e; simp [hi]
  · simp [Array.getElem?_setIfInBounds_ne e, Ne.symm e]

/-- A chain goes on. -/
theorem Inv.step {P : Program} {N : Nat} {ops : Array Oper} {s : Slots} {R : List Res} {W : Wit} {a0 : Act} {w0 : World} {L0 listed : Array Bool} {l1 l2 : List It} {x : It} {st' : St} {a : Act} {w w' : World} {i d : Nat} {v : Value}
    (h : Inv P N ops s R W a0 w0 L0 (l1 ++ x :: l2) listed a w) (hi : i ∈ Region.ready .any ops listed) (hil : i < listed.size) (hd : d ∈ x.c.dsts) (hN : d < N) (ho : w'.os = w.os) (ht : w'.tape = w.tape) (hu : w'.output = w.output) (hz : w.heap.size ≤ w'.heap.size)
    (hb : ∀ b, b < w.heap.size → ¬ x.st.fp b → w'.heap[b]? = w.heap[b]?) (hok : st'.Ok x.c x.Q (a.put (some d) v) w') (hfp : ∀ b, st'.fp b → (x.st.fp b ∨ w.heap.size ≤ b) ∧ b < w'.heap.size) (hseen : ∀ k, st'.seen x.c k ↔ (x.st.seen x.c k ∨ k = i)) :
    Inv P N ops s R W a0 w0 L0 (l1 ++ { x with st := st' } :: l2) (listed.setIfInBounds i true) (a.put (some d) v) w' := by
  have hmem : ∀ y, y ∈ l1 ++ { x with st := st' } :: l2 → y = { x with st := st' } ∨ (y ∈ l1 ++ l2) := fun y hy => by
    simp only [List.mem_append, List.mem_cons] at hy ⊢
    rcases hy with hy | hy | hy
    · exact .inr (.inl hy)
    · exact .inl hy
    · exact .inr (.inr hy)
  have hin : ∀ y, y ∈ l1 ++ l2 → y ∈ l1 ++ x :: l2 := fun y hy => by
    simp only [List.mem_append, List.mem_cons] at hy ⊢
    rcases hy with hy | hy
    · exact .inl hy
    · exact .inr (.inr hy)
  have hx : x ∈ l1 ++ x :: l2 := by simp
  have hap := h.apart
  rw [List.pairwise_append, List.pairwise_cons] at hap
  have hoth : ∀ y, y ∈ l1 ++ l2 → (∀ d ∈ x.c.dsts, d ∉ y.c.dsts) ∧ ∀ b, x.st.fp b → ¬ y.st.fp b := fun y hy => by
    rcases List.mem_append.1 hy with hy | hy
    · have := hap.2.2 y hy x (List.mem_cons_self ..)
      exact ⟨fun d hd h' => this.2.1 d h' hd, fun b hb h' => this.2.2 b h' hb⟩
    · have := hap.2.1.1 y hy
      exact ⟨this.2.1, this.2.2⟩
  have hfx : ∀ b, x.st.fp b → w0.heap.size ≤ b := fun b hb => (h.fp x hx b hb).1
  have hbel : Below w0.heap.size w0 w' := h.below.trans ⟨ho, ht, hu, hz, fun b hb' => hb b (Nat.lt_of_lt_of_le hb' h.below.size) fun hf => by have := hfx b hf; omega⟩
  refine ⟨h.now0, by simp [Act.put, h.tsize], h.defers, hbel, fun y hy => ?_, fun y hy => ?_, fun y hy b hb' => ?_, ?_, by simp [h.size], fun k => ?_, h.closed.step hi, fun t ht' => ?_, fun y hy => ?_⟩
  · rcases hmem y hy with rfl | hy
    · exact h.can x hx
    · exact h.can y (hin y hy)
  · rcases hmem y hy with rfl | hy'
    · exact hok
    · have h0 := h.ok y (hin y hy')
      obtain ⟨g1, g2⟩ := hoth y hy'
      have hne : ∀ t, t ∈ y.c.dsts → d ≠ t := fun t ht' e => g1 d hd (e ▸ ht')
      have hst : ∀ b, y.st.fp b → w'.heap[b]? = w.heap[b]? := fun b hb' => hb b (h.fp y (hin y hy') b hb').2 fun hf => g2 b hf hb'
      cases hs : y.st with
      | no => trivial
      | mid g =>
        rw [hs] at h0 hst
        obtain ⟨⟨j, t, e1, e2⟩, e3⟩ := h0
        exact ⟨⟨j, t, e1, by rw [put_getD (hne t (by simp [Chn.dsts, e1]))]; exact e2⟩, by rw [hst g rfl]; exact e3⟩
      | done r S V u =>
        rw [hs] at h0 hst
        obtain ⟨e1, e2, e3, e4, e5, e6⟩ := h0
        exact ⟨e1, e2, e3, e4.anyw e2, e5.anyw e3 hz (fun j b hj => hst b ⟨j, hj⟩), by rw [put_getD (hne y.c.dst (by unfold Chn.dsts; split <;> simp))]; exact e6⟩
  · rcases hmem y hy with rfl | hy'
    · obtain ⟨h1, h2⟩ := hfp b hb'
      exact ⟨by rcases h1 with h1 | h1; exact hfx b h1; exact Nat.le_trans h.below.size h1, h2⟩
    · have := h.fp y (hin y hy') b hb'
      exact ⟨this.1, Nat.lt_of_lt_of_le this.2 hz⟩
  · have hnew : ∀ y, y ∈ l1 ++ l2 → ∀ b, st'.fp b → ¬ y.st.fp b := fun y hy b h1 h2 => by
      rcases (hfp b h1).1 with h3 | h3
      · exact (hoth y hy).2 b h3 h2
      · exact absurd (h.fp y (hin y hy) b h2).2 (by omega)
    rw [List.pairwise_append, List.pairwise_cons]
    refine ⟨hap.1, ⟨fun y hy => ?_, hap.2.1.2⟩, fun y hy z hz' => ?_⟩
    · have := hap.2.1.1 y hy
      exact ⟨this.1, this.2.1, hnew y (by simp [hy])⟩
    · rcases List.mem_cons.1 hz' with rfl | hz'
      · have := hap.2.2 y hy x (List.mem_cons_self ..)
        exact ⟨this.1, this.2.1, fun b h1 h2 => hnew y (by simp [hy]) b h2 h1⟩
      · exact hap.2.2 y hy z (List.mem_cons_of_mem _ hz')
  · rw [getD_set hil, h.list k]
    constructor
    · rintro (rfl | h1 | ⟨y, hy, h1⟩)
      · exact .inr ⟨{ x with st := st' }, by simp, (hseen _).2 (.inr rfl)⟩
      · exact .inl h1
      · simp only [List.mem_append, List.mem_cons] at hy
        rcases hy with hy | rfl | hy
        · exact .inr ⟨y, by simp [hy], h1⟩
        · exact .inr ⟨{ y with st := st' }, by simp, (hseen _).2 (.inl h1)⟩
        · exact .inr ⟨y, by simp [hy], h1⟩
    · rintro (h1 | ⟨y, hy, h1⟩)
      · exact .inr (.inl h1)
      · rcases hmem y hy with rfl | hy'
        · rcases (hseen _).1 h1 with h1 | h1
          · exact .inr (.inr ⟨x, hx, h1⟩)
          · exact .inl h1
        · exact .inr (.inr ⟨y, hin y hy', h1⟩)
  · have hdt : d ≠ t := fun e => ht' { x with st := st' } (by simp) (e ▸ hd)
    rw [put_getD hdt]
    refine h.same t fun y hy => ?_
    simp only [List.mem_append, List.mem_cons] at hy
    rcases hy with hy | rfl | hy
    · exact ht' y (by simp [hy])
    · exact ht' { y with st := st' } (by simp)
    · exact ht' y (by simp [hy])
  · rcases hmem y hy with rfl | hy'
    · exact h.any x hx
    · exact h.any y (hin y hy')

/-! ### 4. All orders -/
def afters (ops : Array Oper) (k : Nat) : List Nat := match ops[k]? with | some o => (o.after.toList.filter (Region.binds .any)).map (·.on) | none => []

theorem ready_iff {ops : Array Oper} {listed : Array Bool} {j : Nat} : j ∈ Region.ready .any ops listed ↔ (j < listed.size ∧ listed.getD j false = false) ∧ j < ops.size ∧ ∀ k ∈ afters ops j, listed.getD k false = true := by
  rw [mem_ready]
  have e1 : listed.getD j true = false ↔ (j < listed.size ∧ listed.getD j false = false) := by
    simp only [Array.getD_eq_getD_getElem?]
    rcases Nat.lt_or_ge j listed.size with h | h
    · simp [h]
    · simp [Array.getElem?_eq_none h]; omega
  rw [e1]
  unfold afters
  constructor
  · rintro ⟨h1, o, h2, h3⟩
    refine ⟨h1, (Array.getElem?_eq_some_iff.1 h2).1, fun k hk => ?_⟩
    rw [h2] at hk
    simp only [List.mem_map, List.mem_filter] at hk
    obtain ⟨e, ⟨he, hb⟩, rfl⟩ := hk
    exact h3 e (by simpa using he) hb
  · rintro ⟨h1, h2, h3⟩
    refine ⟨h1, ops[j], Array.getElem?_eq_getElem h2, fun e he hb => h3 _ ?_⟩
    rw [Array.getElem?_eq_getElem h2]
    simp only [List.mem_map, List.mem_filter]
    exact ⟨e, ⟨by simpa using he, hb⟩, rfl⟩

def chOk1 (ops : Array Oper) (L0 : Array Bool) (c : Chn) : Bool :=
  c.nums.all (fun k => decide (k < ops.size) && (decide (k < L0.size) && !L0.getD k false)) &&
  (match c.mid with
   | some x => x.1 != c.num && (afters ops c.num).contains x.1
   | none => true)
def chD (ops : Array Oper) (L0 : Array Bool) (prev : List Nat) (c : Chn) : Bool :=
  match c.mid with
  | some x => ((afters ops x.1).all fun k => L0.getD k false || prev.contains k) && (afters ops c.num).all fun k => k == x.1 || (L0.getD k false || prev.contains k)
  | none => (afters ops c.num).all fun k => L0.getD k false || prev.contains k
def chAll (ops : Array Oper) (L0 : Array Bool) : List Nat → List Chn → Bool
  | _, [] => true
  | prev, c :: C => chD ops L0 prev c && chAll ops L0 (prev ++ c.nums) C
def chOk (ops : Array Oper) (L0 : Array Bool) (C : List Chn) : Bool :=
  (C.all (chOk1 ops L0) && chAll ops L0 [] C) && (List.range ops.size).all fun k => L0.getD k false || ((C.any fun c => c.nums.contains k) || C.all fun c => (befores .any ops (k + 1) [k]).contains c.num)

theorem chAll_at {ops : Array Oper} {L0 : Array Bool} : ∀ (C1 : List Chn) (prev : List Nat) (c : Chn) (C2 : List Chn), chAll ops L0 prev (C1 ++ c :: C2) = true → chD ops L0 (prev ++ C1.flatMap Chn.nums) c = true
  | [], prev, c, C2, h => by simp only [List.nil_append, chAll, Bool.and_eq_true] at h; simpa using h.1
  | d :: C1, prev, c, C2, h => by
    simp only [List.cons_append, chAll, Bool.and_eq_true] at h
    have := chAll_at C1 _ c C2 h.2
    simpa using this

def It.over (x : It) : Prop := ∃ r S V v, x.st = .done r S V v

theorem todo_split (l1 l2 : List It) (x : It) : todo (l1 ++ x :: l2) = todo l1 + x.st.left x.c + todo l2 := by simp [todo, Nat.add_assoc]

theorem over_of_left {x : It} (h : x.st.left x.c = 0) : x.over := by
  cases hs : x.st with
  | no => rw [hs] at h; simp only [St.left, Chn.nums] at h; split at h <;> simp at h
  | mid g => rw [hs] at h; simp [St.left] at h
  | done r S V v => exact ⟨r, S, V, v, hs⟩

section
variable {P : Program} {N : Nat} {ops : Array Oper} {s : Slots} {R : List Res} {W : Wit} {a0 : Act} {w0 : World} {L0 : Array Bool} {C : List (Chn × (AV → List Res → Prop))}

theorem num_mem (c : Chn) : c.num ∈ c.nums := by unfold Chn.nums; split <;> simp
theorem dst_mem (c : Chn) : c.dst ∈ c.dsts := by unfold Chn.dsts; split <;> simp

theorem Inv.unseen {l : List It} {listed : Array Bool} {a : Act} {w : World} (h : Inv P N ops s R W a0 w0 L0 l listed a w) {x : It} (hx : x ∈ l) {k : Nat} (hk : k ∈ x.c.nums) (h0 : L0.getD k false = false) (hns : ¬ x.st.seen x.c k) : listed.getD k false = false := by
  rw [Bool.eq_false_iff]
  intro hl
  rcases (h.list k).1 hl with h3 | ⟨y, hy, h3⟩
  · rw [h0] at h3; cases h3
  · have hky : k ∈ y.c.nums := by
      cases hs : y.st with
      | no => rw [hs] at h3; exact h3.elim
      | mid g => rw [hs] at h3; obtain ⟨d, e⟩ := h3; simp [Chn.nums, e]
      | done r S V v => rw [hs] at h3; exact h3
    by_cases e : y = x
    · subst e; exact hns h3
    · have hp := h.apart
      have : Apart x y ∨ Apart y x := by
        rw [List.pairwise_iff_getElem] at hp
        obtain ⟨i, hi, rfl⟩ := List.mem_iff_getElem.1 hx
        obtain ⟨j, hj, rfl⟩ := List.mem_iff_getElem.1 hy
        rcases Nat.lt_trichotomy i j with h' | h' | h'
        · exact .inl (hp i j hi hj h')
        · subst h'; exact absurd rfl e
        · exact .inr (hp j i hj hi h')
      rcases this with h' | h'
      · exact h'.1 k hk hky
      · exact h'.1 k hky hk

/-- What the first chain that is not over has next may come up. -/
theorem Inv.next {l1 l2 : List It} {x : It} {listed : Array Bool} {a : Act} {w : World} (h : Inv P N ops s R W a0 w0 L0 (l1 ++ x :: l2) listed a w) (hc : chOk1 ops L0 x.c = true) (hd : chD ops L0 ((l1.map It.c).flatMap Chn.nums) x.c = true) (ho : ∀ y ∈ l1, y.over) (hn : ¬ x.over) : ∃ i, i ∈ Region.ready .any ops listed := by
  have hx : x ∈ l1 ++ x :: l2 := by simp
  simp only [chOk1, Bool.and_eq_true, List.all_eq_true, decide_eq_true_eq, Bool.not_eq_true'] at hc
  obtain ⟨h1, h2⟩ := hc
  have un : ∀ k ∈ x.c.nums, ¬ x.st.seen x.c k → listed.getD k false = false := fun k hk hns => h.unseen hx hk (h1 k hk).2.2 hns
  have hL : ∀ k, (L0.getD k false || ((l1.map It.c).flatMap Chn.nums).contains k) = true → listed.getD k false = true := fun k hk => by
    rw [Bool.or_eq_true] at hk
    rcases hk with hk | hk
    · exact (h.list k).2 (.inl hk)
    · rw [List.contains_iff_mem] at hk
      obtain ⟨c, hc, hk⟩ := List.mem_flatMap.1 hk
      obtain ⟨y, hy, rfl⟩ := List.mem_map.1 hc
      obtain ⟨r, S, V, v, e⟩ := ho y hy
      exact (h.list k).2 (.inr ⟨y, by simp [hy], by rw [e]; exact hk⟩)
  unfold chD at hd
  cases hm : x.c.mid with
  | none =>
    rw [hm] at hd
    simp only [List.all_eq_true] at hd
    cases hs : x.st with
    | no =>
      have hk := num_mem x.c
      exact ⟨x.c.num, ready_iff.2 ⟨⟨by rw [h.size]; exact (h1 _ hk).2.1, un _ hk (by rw [hs]; exact fun h => h)⟩, (h1 _ hk).1, fun k hk' => hL k (hd k hk')⟩⟩
    | mid g =>
      have := h.ok x hx
      rw [hs] at this
      obtain ⟨⟨i, d, e, _⟩, _⟩ := this
      rw [hm] at e; cases e
    | done r S V v => exact absurd ⟨r, S, V, v, hs⟩ hn
  | some m =>
    rw [hm] at hd h2
    simp only [Bool.and_eq_true, List.all_eq_true, bne_iff_ne] at hd h2
    obtain ⟨h4, h6⟩ := hd
    have h3 := h2.1
    have hk := num_mem x.c
    have hk0 : m.1 ∈ x.c.nums := by simp [Chn.nums, hm]
    cases hs : x.st with
    | no => exact ⟨m.1, ready_iff.2 ⟨⟨by rw [h.size]; exact (h1 _ hk0).2.1, un _ hk0 (by rw [hs]; exact fun h => h)⟩, (h1 _ hk0).1, fun k hk' => hL k (h4 k hk')⟩⟩
    | mid g =>
      refine ⟨x.c.num, ready_iff.2 ⟨⟨by rw [h.size]; exact (h1 _ hk).2.1, un _ hk (by rw [hs]; rintro ⟨d, e⟩; rw [hm] at e; cases e; exact h3 rfl)⟩, (h1 _ hk).1, fun k hk' => ?_⟩⟩
      have h7 := h6 k hk'
      rw [Bool.or_eq_true, beq_iff_eq] at h7
      rcases h7 with rfl | h7
      · exact (h.list _).2 (.inr ⟨x, hx, by rw [hs]; exact ⟨m.2, hm⟩⟩)
      · exact hL k h7
    | done r S V v => exact absurd ⟨r, S, V, v, hs⟩ hn

theorem first_not {p : It → Prop} : ∀ {l : List It}, (∃ x ∈ l, ¬ p x) → ∃ l1 x l2, l = l1 ++ x :: l2 ∧ (∀ y ∈ l1, p y) ∧ ¬ p x
  | [], h => by obtain ⟨x, hx, _⟩ := h; simp at hx
  | y :: l, h => by
    by_cases hy : p y
    · obtain ⟨x, hx, hn⟩ := h
      rcases List.mem_cons.1 hx with rfl | hx
      · exact absurd hy hn
      · obtain ⟨l1, z, l2, rfl, h1, h2⟩ := first_not ⟨x, hx, hn⟩
        exact ⟨y :: l1, z, l2, rfl, fun w hw => by rcases List.mem_cons.1 hw with rfl | hw; exact hy; exact h1 w hw, h2⟩
    · exact ⟨[], y, l, rfl, by simp, hy⟩

theorem fresh_wp {Sx : World → Prop} {Q : Exit → Act → World → Prop} {f : Nat} (hS : ∀ w, Below w0.heap.size w0 w → Sx w) (hchk : chOk ops L0 (C.map Prod.fst) = true)
    (hdone : ∀ l listed a w, l.map (fun x : It => (x.c, x.Q)) = C → (∀ x ∈ l, x.over) → Inv P N ops s R W a0 w0 L0 l listed a w → wpAnyJ P .any ops Q f Sx listed a w) :
    ∀ (n : Nat) (l : List It) (listed : Array Bool) (a : Act) (w : World), todo l = n → l.map (fun x : It => (x.c, x.Q)) = C → Inv P N ops s R W a0 w0 L0 l listed a w → wpAnyJ P .any ops Q (f + n) Sx listed a w
  | 0, l, listed, a, w, hn, hl, h => by
    refine hdone l listed a w hl (fun x hx => ?_) h
    obtain ⟨l1, l2, rfl⟩ := List.append_of_mem hx
    rw [todo_split] at hn
    exact over_of_left (by omega)
  | n + 1, l, listed, a, w, hn, hl, h => by
    have hC : C.map Prod.fst = l.map It.c := by rw [← hl, List.map_map]; rfl
    rw [hC] at hchk
    simp only [chOk, Bool.and_eq_true, List.all_eq_true] at hchk
    obtain ⟨⟨hc1, hc3⟩, hc2⟩ := hchk
    have hc : ∀ x ∈ l, chOk1 ops L0 x.c = true := fun x hx => hc1 _ (List.mem_map_of_mem hx)
    have hex : ∃ x ∈ l, ¬ x.over := Classical.byContradiction fun hno => by
      have : ∀ (m : List It), (∀ x ∈ m, x.over) → todo m = 0 := fun m => by
        induction m with
        | nil => intro _; rfl
        | cons y m ih =>
          intro hy
          obtain ⟨r, S, V, v, e⟩ := hy y (List.mem_cons_self ..)
          have := ih fun z hz => hy z (List.mem_cons_of_mem _ hz)
          have hz : y.st.left y.c = 0 := by rw [e]; rfl
          simp only [todo, List.map_cons, List.sum_cons] at this ⊢
          omega
      rw [this l fun x hx => Classical.byContradiction fun hno' => hno ⟨x, hx, hno'⟩] at hn
      cases hn
    obtain ⟨x0, hx0, hn0⟩ := hex
    refine ⟨fun h0 => ?_, fun i hi => ?_⟩
    · obtain ⟨m1, y, m2, rfl, k1, k2⟩ := first_not ⟨x0, hx0, hn0⟩
      rw [List.map_append, List.map_cons] at hc3
      obtain ⟨i, hi⟩ := h.next (hc y (by simp)) (by simpa using chAll_at _ [] _ _ hc3) k1 k2
      rw [h0] at hi; cases hi
    · have hr := ready_iff.1 hi
      -- it is one of the chains'
      have hmem : ∃ x ∈ l, i ∈ x.c.nums := by
        have := hc2 i (List.mem_range.2 hr.2.1)
        simp only [Bool.or_eq_true, List.any_eq_true, List.all_eq_true, List.mem_map, List.contains_iff_mem] at this
        rcases this with h1 | ⟨c, ⟨x, hx, rfl⟩, h1⟩ | h1
        · have := (h.list i).2 (.inl h1)
          rw [hr.1.2] at this; cases this
        · exact ⟨x, hx, h1⟩
        · have h2 := h1 x0.c ⟨x0, hx0, rfl⟩
          rcases befores_listed h.closed hi (i + 1) [i] (fun m hm => .inl (by simpa using hm)) _ h2 with h3 | h3
          · exact ⟨x0, hx0, h3 ▸ num_mem _⟩
          · exfalso
            have h4 := hc x0 hx0
            simp only [chOk1, Bool.and_eq_true, List.all_eq_true, decide_eq_true_eq, Bool.not_eq_true'] at h4
            obtain ⟨h4, h5⟩ := h4
            have := h.unseen hx0 (num_mem _) (h4 _ (num_mem _)).2.2 (fun hs => by
              cases hst : x0.st with
              | no => rw [hst] at hs; exact hs
              | mid g =>
                rw [hst] at hs
                obtain ⟨d, e⟩ := hs
                rw [e] at h5
                simp at h5
              | done r S V v => exact hn0 ⟨r, S, V, v, hst⟩)
            rw [h3] at this; cases this
      obtain ⟨x, hx, hix⟩ := hmem
      have hil : i < listed.size := hr.1.1
      have hnl := hr.1.2
      have hnd : ¬ x.over := fun ⟨r, S, V, v, e⟩ => by
        have := (h.list i).2 (.inr ⟨x, hx, by rw [e]; exact hix⟩)
        rw [hnl] at this; cases this
      have hok := h.ok x hx
      have hcan := h.can x hx
      have hfx := h.fp x hx
      have hnow := h.now
      obtain ⟨c, Qc, st⟩ := x
      obtain ⟨l1, l2, rfl⟩ := List.append_of_mem hx
      rw [todo_split] at hn
      have hbel : ∀ w' : World, w'.os = w.os → w'.tape = w.tape → w'.output = w.output → w.heap.size ≤ w'.heap.size → (∀ b, b < w.heap.size → (∀ (_ : st.fp b), False) → w'.heap[b]? = w.heap[b]?) → Below w0.heap.size w0 w' := fun w' h1 h2 h3 h4 h5 =>
        h.below.trans ⟨h1, h2, h3, h4, fun b hb => h5 b (Nat.lt_of_lt_of_le hb h.below.size) fun hf => by have := (hfx b hf).1; omega⟩
      have hgo : ∀ (st' : St), todo (l1 ++ ⟨c, Qc, st'⟩ :: l2) = n → ∀ (d : Nat) (v : Value) (w' : World), Inv P N ops s R W a0 w0 L0 (l1 ++ ⟨c, Qc, st'⟩ :: l2) (listed.setIfInBounds i true) (a.put (some d) v) w' →
          wpAnyJ P .any ops Q (f + n) Sx (listed.setIfInBounds i true) (a.put (some d) v) w' := fun st' h1 d v w' h2 => fresh_wp hS (by rw [hC]; simp only [chOk, Bool.and_eq_true, List.all_eq_true]; exact ⟨⟨hc1, hc3⟩, hc2⟩) hdone n _ _ _ _ h1 (by simpa using hl) h2
      unfold wpOp
      cases hcan with
      | @one j d e o _ h1 h2 h3 h4 h5 =>
        have hij : i = j := by simpa [Chn.nums] using hix
        subst hij
        cases st with
        | mid g => obtain ⟨⟨_, _, e', _⟩, _⟩ := hok; cases e'
        | done r S V v => exact absurd ⟨r, S, V, v, rfl⟩ hnd
        | no =>
          simp only [h1, want_real hnow h2, if_true]
          refine .inl (Oper.wp_mono (fun a' w' hh => ?_) (h5 _ a w W hnow))
          obtain ⟨hb, r, S, V, v, k1, k2, k3, rfl, k4, k5, k6⟩ := hh
          rw [h3]
          refine .inl ⟨hS _ (hbel w' hb.os hb.tape hb.output hb.size fun b hb' _ => hb.block b hb'), hgo (.done r S V v) (by rw [todo_split]; simp [St.left, Chn.nums] at hn ⊢; omega) d v w' ?_⟩
          refine h.step (x := ⟨_, Qc, .no⟩) (st' := .done r S V v) hi hil (by simp [Chn.dsts]) h4 hb.os hb.tape hb.output hb.size (fun b hb' _ => hb.block b hb') ⟨k1, k2, k3, k4, k5, put_getD_self h4 h.tsize⟩ (fun b hb' => ?_) (fun k => ?_)
          · obtain ⟨q, hq⟩ := hb'
            exact ⟨.inr (k6 q b hq), k5.lt q b hq⟩
          · simp [St.seen, Chn.nums]
      | @two im dm j d e o om _ h1 h2 h3 h4 h5 h6 h7 h8 h9 h10 =>
        have hcm := hc1 _ (List.mem_map_of_mem hx)
        simp only [chOk1, Bool.and_eq_true, List.all_eq_true, bne_iff_ne, Bool.or_eq_true, beq_iff_eq, List.contains_iff_mem] at hcm
        obtain ⟨hcm1, hne, hcm3⟩ := hcm
        cases st with
        | done r S V v => exact absurd ⟨r, S, V, v, rfl⟩ hnd
        | no =>
          have hii : i = im := by
            have : i = im ∨ i = j := by simpa [Chn.nums] using hix
            rcases this with h' | h'
            · exact h'
            · subst h'
              have := hr.2.2 im hcm3
              have hz := hcm1 im (by simp [Chn.nums])
              simp only [decide_eq_true_eq, Bool.not_eq_true'] at hz
              rw [h.unseen hx (k := im) (by simp [Chn.nums]) hz.2.2 (fun h => h)] at this
              cases this
          subst hii
          simp only [h1, want_real hnow h2, if_true]
          refine .inl (Oper.wp_mono (fun a' w' hh => ?_) (h5 _ a w))
          obtain ⟨rfl, rfl⟩ := hh
          rw [h3]
          refine .inl ⟨hS _ (hbel _ rfl rfl rfl (by simp) fun b hb' _ => heap_alloc_lt w _ b hb'), hgo (.mid w.heap.size) (by rw [todo_split]; simp [St.left, Chn.nums] at hn ⊢; omega) dm _ _ ?_⟩
          refine h.step (x := ⟨_, Qc, .no⟩) (st' := .mid w.heap.size) hi hil (by simp [Chn.dsts]) h4 rfl rfl rfl (by simp) (fun b hb' _ => heap_alloc_lt w _ b hb') ⟨⟨i, dm, rfl, put_getD_self h4 h.tsize⟩, heap_alloc_self ..⟩ (fun b hb' => ?_) (fun k => ?_)
          · have : b = w.heap.size := hb'
            subst this
            exact ⟨.inr (Nat.le_refl _), by simp⟩
          · simp [St.seen, eq_comm]
        | mid g =>
          have hii : i = j := by
            have : i = im ∨ i = j := by simpa [Chn.nums] using hix
            rcases this with h' | h'
            · subst h'
              have := (h.list i).2 (.inr ⟨_, hx, ⟨dm, rfl⟩⟩)
              rw [hnl] at this; cases this
            · exact h'
          subst hii
          obtain ⟨⟨i', d', e1, e2⟩, e3⟩ := hok
          obtain ⟨rfl, rfl⟩ : im = i' ∧ dm = d' := by cases e1; exact ⟨rfl, rfl⟩
          simp only [h6, want_real hnow h7, if_true]
          refine .inl (Oper.wp_mono (fun a' w' hh => ?_) (h10 _ a w W g hnow e2 e3))
          obtain ⟨hb, r, S, V, v, k1, k2, k3, rfl, k4, k5, k6⟩ := hh
          rw [h8]
          refine .inl ⟨hS _ (hbel w' hb.os hb.tape hb.output hb.size fun b hb' _ => hb.block b hb'), hgo (.done r S V v) (by rw [todo_split]; simp [St.left] at hn ⊢; omega) d v w' ?_⟩
          refine h.step (x := ⟨_, Qc, .mid g⟩) (st' := .done r S V v) hi hil (by simp [Chn.dsts]) h9 hb.os hb.tape hb.output hb.size (fun b hb' _ => hb.block b hb') ⟨k1, k2, k3, k4, k5, put_getD_self h9 h.tsize⟩ (fun b hb' => ?_) (fun k => ?_)
          · obtain ⟨q, hq⟩ := hb'
            exact ⟨k6 q b hq, k5.lt q b hq⟩
          · simp [St.seen, Chn.nums, eq_comm]
end

/-! ### 5. All of them behind what stood -/
def FreshK (K : Slots → List Res → Prop) : List (Nat × (AV → List Res → Prop)) → Slots → List Res → Prop
  | [], s, R => K s R
  | x :: l, s, R => ∀ r S, x.2 r S → FreshK K l ((x.1, r.sh R.length) :: s) (R ++ S.map (Res.sh R.length))

def shS (n : Nat) (D : Slots) : Slots := D.map fun p => (p.1, p.2.sh n)

theorem gather {a : Act} {w : World} {Pb : Nat → Prop} {s : Slots} {R : List Res} {K : Slots → List Res → Prop} : ∀ (l : List It) (D : Slots) (S : List Res) (V : Wit), (∀ x ∈ l, x.over) → (∀ x ∈ l, x.st.Ok x.c x.Q a w) → l.Pairwise Apart → Sep w V S → S.all Res.own = true →
    (∀ p ∈ D, p.2.own = true ∧ AVR V S w p.2 (a.tmps.getD p.1 undef)) → (∀ i b, V.fs i b → Pb b) → (∀ x ∈ l, ∀ b, x.st.fp b → Pb b) → (∀ x ∈ l, ∀ i b, V.fs i b → ¬ x.st.fp b) →
    FreshK K (l.map fun x => (x.c.dst, x.Q)) (shS R.length D ++ s) (R ++ S.map (Res.sh R.length)) →
    ∃ D' S' V', K (shS R.length D' ++ s) (R ++ S'.map (Res.sh R.length)) ∧ Sep w V' S' ∧ S'.all Res.own = true ∧ (∀ p ∈ D', p.2.own = true ∧ AVR V' S' w p.2 (a.tmps.getD p.1 undef)) ∧ ∀ i b, V'.fs i b → Pb b
  | [], D, S, V, _, _, _, h1, h2, h3, h4, _, _, hk => ⟨D, S, V, hk, h1, h2, h3, h4⟩
  | x :: l, D, S, V, hov, hok, hap, h1, h2, h3, h4, h5, h6, hk => by
    obtain ⟨r, T, U, v, e⟩ := hov x (List.mem_cons_self ..)
    have k0 := hok x (List.mem_cons_self ..)
    have k5 := h5 x (List.mem_cons_self ..)
    have k6 := h6 x (List.mem_cons_self ..)
    rw [List.pairwise_cons] at hap
    have hapx := hap.1
    rw [e] at k0 k5 k6
    obtain ⟨g1, g2, g3, g4, g5, g6⟩ := k0
    have hV : ∀ i b, (Wit.join S.length V U).fs i b → (∃ j, V.fs j b) ∨ ∃ j, U.fs j b := fun i b h => by
      simp only [Wit.join] at h
      split at h
      · exact .inl ⟨_, h⟩
      · exact .inr ⟨_, h⟩
    refine gather l ((x.c.dst, r.sh S.length) :: D) (S ++ T.map (Res.sh S.length)) (Wit.join S.length V U) (fun y hy => hov y (List.mem_cons_of_mem _ hy)) (fun y hy => hok y (List.mem_cons_of_mem _ hy)) hap.2
      (h1.side g5 h2 g3 fun i j b hi hj => k6 i b hi ⟨j, hj⟩) (by rw [List.all_append, h2, res_shs_own, g3]; rfl) (fun p hp => ?_) (fun i b hb => ?_) (fun y hy => h5 y (List.mem_cons_of_mem _ hy)) (fun y hy i b hb hf => ?_) ?_
    · rcases List.mem_cons.1 hp with rfl | hp
      · exact ⟨by rw [av_sh_own]; exact g2, by rw [g6]; exact g4.sh g2⟩
      · obtain ⟨q1, q2⟩ := h3 p hp
        exact ⟨q1, q2.more q1⟩
    · rcases hV i b hb with ⟨j, hj⟩ | ⟨j, hj⟩
      · exact h4 j b hj
      · exact k5 b ⟨j, hj⟩
    · rcases hV i b hb with ⟨j, hj⟩ | ⟨j, hj⟩
      · exact h6 y (List.mem_cons_of_mem _ hy) j b hj hf
      · exact (hapx y hy).2.2 b (by rw [e]; exact ⟨j, hj⟩) hf
    · have := hk r T g1
      have hl : (R ++ S.map (Res.sh R.length)).length = R.length + S.length := by simp
      rw [hl] at this
      simp only [shS, List.map_cons, List.cons_append, List.map_append, List.map_map, av_sh_sh] at this ⊢
      have hf : (Res.sh R.length ∘ Res.sh S.length) = Res.sh (R.length + S.length) := funext fun x => res_sh_sh _ _ x
      rw [hf, ← List.append_assoc]
      exact this

def eras (C : List (Chn × (AV → List Res → Prop))) : Slots := (C.flatMap fun x => x.1.dsts).map fun d => (d, .any)

theorem get_eras : ∀ (l : List Nat) (s : Slots) (t : Nat), (t ∈ l → E.get (l.map (fun d => (d, AV.any)) ++ s) t = .any) ∧ (¬ t ∈ l → E.get (l.map (fun d => (d, AV.any)) ++ s) t = E.get s t)
  | [], s, t => ⟨fun h => by simp at h, fun _ => rfl⟩
  | d :: l, s, t => by
    obtain ⟨h1, h2⟩ := get_eras l s t
    by_cases e : d = t
    · subst e; exact ⟨fun _ => by simp [E.get], fun h => absurd (List.mem_cons_self ..) h⟩
    · refine ⟨fun h => ?_, fun h => ?_⟩
      · rcases List.mem_cons.1 h with h | h
        · exact absurd h.symm e
        · simpa [E.get, e] using h1 h
      · simpa [E.get, e] using h2 fun h' => h (List.mem_cons_of_mem _ h')

theorem get_shS {n : Nat} {s : Slots} {t : Nat} : ∀ (D : Slots), (∃ p ∈ D, p.1 = t ∧ E.get (shS n D ++ s) t = p.2.sh n) ∨ E.get (shS n D ++ s) t = E.get s t
  | [] => .inr rfl
  | q :: D => by
    by_cases e : q.1 = t
    · exact .inl ⟨q, List.mem_cons_self .., e, by simp [shS, E.get, e]⟩
    · rcases get_shS (n := n) (s := s) (t := t) D with ⟨p, h1, h2, h3⟩ | h
      · exact .inl ⟨p, List.mem_cons_of_mem _ h1, h2, by simpa [shS, E.get, e] using h3⟩
      · exact .inr (by simpa [shS, E.get, e] using h)

def markAll (L : Array Bool) : List Nat → Array Bool
  | [] => L
  | k :: l => markAll (L.setIfInBounds k true) l

theorem markAll_size : ∀ (l : List Nat) (L : Array Bool), (markAll L l).size = L.size
  | [], _ => rfl
  | k :: l, L => by rw [markAll, markAll_size l]; simp
theorem markAll_get : ∀ (l : List Nat) (L : Array Bool), (∀ k ∈ l, k < L.size) → ∀ k, (markAll L l).getD k false = true ↔ (L.getD k false = true ∨ k ∈ l)
  | [], _, _, k => by simp [markAll]
  | j :: l, L, h, k => by
    rw [markAll, markAll_get l _ (fun i hi => by simpa using h i (List.mem_cons_of_mem _ hi)), getD_set (h j (List.mem_cons_self ..)), List.mem_cons]
    constructor
    · rintro ((h | h) | h)
      · exact .inr (.inl h)
      · exact .inl h
      · exact .inr (.inr h)
    · rintro (h | h | h)
      · exact .inl (.inr h)
      · exact .inl (.inl h)
      · exact .inr h

theorem bools_ext {A B : Array Bool} (hs : A.size = B.size) (h : ∀ k, A.getD k false = true ↔ B.getD k false = true) : A = B := by
  apply Array.ext hs
  intro i h1 h2
  have := h i
  simp only [Array.getD_eq_getD_getElem?, Array.getElem?_eq_getElem h1, Array.getElem?_eq_getElem h2, Option.getD_some] at this
  exact Bool.eq_iff_iff.2 this

def apOk : List (Chn × (AV → List Res → Prop)) → Bool
  | [] => true
  | x :: C => (C.all fun y => (x.1.nums.all fun k => !y.1.nums.contains k) && x.1.dsts.all fun d => !y.1.dsts.contains d) && apOk C

theorem apOk_pair : ∀ (C : List (Chn × (AV → List Res → Prop))), apOk C = true → (C.map fun x => (⟨x.1, x.2, .no⟩ : It)).Pairwise Apart
  | [], _ => .nil
  | x :: C, h => by
    simp only [apOk, Bool.and_eq_true, List.all_eq_true, Bool.not_eq_true'] at h
    rw [List.map_cons, List.pairwise_cons]
    refine ⟨fun y hy => ?_, apOk_pair C h.2⟩
    obtain ⟨z, hz, rfl⟩ := List.mem_map.1 hy
    obtain ⟨h1, h2⟩ := h.1 z hz
    refine ⟨fun k hk hk' => ?_, fun d hd hd' => ?_, fun b hb => hb.elim⟩
    · have := h1 k hk; simp at this; exact this hk'
    · have := h2 d hd; simp at this; exact this hd'

def AllOk (P : Program) (N : Nat) (ops : Array Oper) (s : Slots) (R : List Res) : List (Chn × (AV → List Res → Prop)) → Prop
  | [] => True
  | x :: C => ChOk P N ops s R x.1 x.2 ∧ AllOk P N ops s R C
theorem AllOk.mem {P : Program} {N : Nat} {ops : Array Oper} {s : Slots} {R : List Res} : ∀ {C : List (Chn × (AV → List Res → Prop))}, AllOk P N ops s R C → ∀ x ∈ C, ChOk P N ops s R x.1 x.2
  | _ :: _, h, x, hx => by
    rcases List.mem_cons.1 hx with rfl | hx
    · exact h.1
    · exact h.2.mem x hx

def cnt (C : List (Chn × (AV → List Res → Prop))) : Nat := (C.map fun x => x.1.nums.length).sum

/-- Chains come up in any order: behind them all stands what they made, one behind the other. -/
theorem T_fresh {P : Program} {N : Nat} {ops : Array Oper} {s s1 : Slots} {R R1 : List Res} {K : Slots → List Res → Prop} {listed listed' : Array Bool} (f : Nat) (C : List (Chn × (AV → List Res → Prop)))
    (hC : AllOk P N ops (eras C ++ s) R C) (h : FreshK (fun s' R' => EAnyT P N ops (eras C ++ s1) R1 f listed' s' R' K) (C.map fun x => (x.1.dst, x.2)) (eras C ++ s) R)
    (hchk : chOk ops listed (C.map Prod.fst) = true) (hap : apOk C = true) (hl : markAll listed (C.flatMap fun x => x.1.nums) = listed') :
    EAnyT P N ops s1 R1 (f + cnt C) listed s R K := by
  subst hl
  intro G w1 W1 a0 w0 W hn1 ht hn hb hc hq
  have hds : ∀ x ∈ C, ∀ d ∈ x.1.dsts, d ∈ C.flatMap fun x => x.1.dsts := fun x hx d hd => List.mem_flatMap.2 ⟨x, hx, hd⟩
  have hn0 : Now N (eras C ++ s) R a0 w0 W := hn.sub fun t => by
    by_cases e : t ∈ C.flatMap fun x => x.1.dsts
    · exact .inl ((get_eras _ s t).1 e)
    · exact .inr ((get_eras _ s t).2 e).symm
  have hnum : ∀ x ∈ C, ∀ k ∈ x.1.nums, k < listed.size := fun x hx k hk => by
    simp only [chOk, Bool.and_eq_true, List.all_eq_true, List.mem_map] at hchk
    have := hchk.1.1 x.1 ⟨x, hx, rfl⟩
    simp only [chOk1, Bool.and_eq_true, List.all_eq_true, decide_eq_true_eq, Bool.not_eq_true'] at this
    exact (this.1 k hk).2.1
  have key := fresh_wp (P := P) (N := N) (ops := ops) (s := eras C ++ s) (R := R) (W := W) (a0 := a0) (w0 := w0) (L0 := listed) (C := C) (Sx := fun w' => Below w1.heap.size w1 w') (Q := fun ex a' w' => ex = .normal ∧ G a' w') (f := f)
    (fun w hw => hb.trans (hw.mono hb.size)) hchk (fun l lst a w hl hov hi => ?_) (cnt C) (C.map fun x => ⟨x.1, x.2, .no⟩) listed a0 w0 (by simp [todo, cnt, St.left, Function.comp_def]) (by simp [Function.comp_def])
    ⟨hn0, hn.size, hn.defers, Below.refl _ _, fun x hx => by
        obtain ⟨y, hy, rfl⟩ := List.mem_map.1 hx
        exact hC.mem y hy, fun x hx => by
        obtain ⟨y, hy, rfl⟩ := List.mem_map.1 hx
        trivial, fun x hx b hb => by
        obtain ⟨y, hy, rfl⟩ := List.mem_map.1 hx
        exact hb.elim, apOk_pair C hap, rfl, fun k => ⟨.inl, fun h => by
          rcases h with h | ⟨x, hx, h⟩
          · exact h
          · obtain ⟨y, hy, rfl⟩ := List.mem_map.1 hx
            exact h.elim⟩, hc, fun t _ => rfl, fun x hx d hd => by
        obtain ⟨y, hy, rfl⟩ := List.mem_map.1 hx
        exact (get_eras _ s d).1 (hds y hy d hd)⟩
  · exact key
  · have hmemC : ∀ x ∈ l, (x.c, x.Q) ∈ C := fun x hx => hl ▸ List.mem_map.2 ⟨x, hx, rfl⟩
    have hmeml : ∀ y ∈ C, ∃ x ∈ l, x.c = y.1 := fun y hy => by
      rw [← hl] at hy
      obtain ⟨x, hx, rfl⟩ := List.mem_map.1 hy
      exact ⟨x, hx, rfl⟩
    have hlst : markAll listed (C.flatMap fun x => x.1.nums) = lst := by
      refine bools_ext (by rw [markAll_size, hi.size]) fun k => ?_
      rw [markAll_get _ _ (fun k hk => by
        obtain ⟨x, hx, hk⟩ := List.mem_flatMap.1 hk
        exact hnum x hx k hk), hi.list k]
      constructor
      · rintro (h1 | h1)
        · exact .inl h1
        · obtain ⟨y, hy, hk⟩ := List.mem_flatMap.1 h1
          obtain ⟨x, hx, e⟩ := hmeml y hy
          obtain ⟨r, S, V, v, e2⟩ := hov x hx
          exact .inr ⟨x, hx, by rw [e2]; show k ∈ x.c.nums; rw [e]; exact hk⟩
      · rintro (h1 | ⟨x, hx, h1⟩)
        · exact .inl h1
        · obtain ⟨r, S, V, v, e2⟩ := hov x hx
          rw [e2] at h1
          exact .inr (List.mem_flatMap.2 ⟨_, hmemC x hx, h1⟩)
    subst hlst
    have hmap : (l.map fun x => (x.c.dst, x.Q)) = C.map fun x => (x.1.dst, x.2) := by rw [← hl, List.map_map]; rfl
    rw [← hmap] at h
    obtain ⟨D, S, V, hK, g1, g2, g3, g4⟩ := gather (a := a) (w := w) (Pb := fun b => w0.heap.size ≤ b) (s := eras C ++ s) (R := R) l [] [] W0 hov hi.ok hi.apart (Sep.none w) rfl (fun p hp => by simp at hp) (fun i b h => h.elim) (fun x hx b hb => (hi.fp x hx b hb).1) (fun x hx i b h => h.elim) (by simpa [shS] using h)
    obtain ⟨tr, sp⟩ := hn.sep.frame hi.below g1 g2 g4
    have hnow : Now N (shS R.length D ++ (eras C ++ s)) (R ++ S.map (Res.sh R.length)) a w (Wit.join R.length W V) := by
      refine ⟨hi.tsize, hi.defers, fun t => ?_, sp⟩
      rcases get_shS (n := R.length) (s := eras C ++ s) (t := t) D with ⟨p, h1, rfl, h3⟩ | h3
      · rw [h3]
        obtain ⟨q1, q2⟩ := g3 p h1
        exact q2.sh q1
      · rw [h3]
        by_cases e : ∃ x ∈ l, t ∈ x.c.dsts
        · obtain ⟨x, hx, hd⟩ := e
          rw [hi.any x hx t hd]; exact AVR.any ..
        · rw [hi.same t fun x hx hd => e ⟨x, hx, hd⟩]
          exact (hn0.val t).next tr
    have hn1' : Now N (eras C ++ s1) R1 a w1 W1 := by
      refine ⟨hi.tsize, hi.defers, fun t => ?_, hn1.sep⟩
      by_cases e : t ∈ C.flatMap fun x => x.1.dsts
      · have := (get_eras _ s1 t).1 e
        rw [show E.get (eras C ++ s1) t = .any from this]; exact AVR.any ..
      · have := (get_eras _ s1 t).2 e
        rw [show E.get (eras C ++ s1) t = E.get s1 t from this, hi.same t fun x hx hd => e (hds _ (hmemC x hx) t hd)]
        exact hn1.val t
    exact hK G w1 W1 a w _ hn1' (ht.trans tr) hnow (hb.trans (hi.below.mono hb.size)) hi.closed fun a' w' hr => hq a' w' (hr.after tr)

end Go.Proofs.Ythlhmpknngidmaa.E

namespace Go.Proofs.Ythlhmpknngidmaa.E
open Go Go.RowKit
set_option linter.unusedVariables false
set_option linter.unusedSimpArgs false

section
variable {P : Program} {N : Nat} {s : Slots} {R : List Res}

theorem F_call {o : Oper} {x : Operand} {args : Array Operand} {ats : Array TypeId} {f : FuncId} {args' : List AV} {Q : AV → List Res → Prop} (ho : o.op = .call { callee := .value x, args := args, argTypes := ats }) (hx : ev s x = .c (.fn f [])) (hf : callable P f = true)
    (h0 : EFn P f args' [] Q) (ha : (args.toList.map (ev s)).map (E.lend R) = args') (hq : ∀ r S, Q r S → r.own = true ∧ S.all Res.own = true) : FOp P N o s R Q := by
  intro Q' a w W hn
  have hv := hn.ev x
  rw [hx] at hv
  obtain ⟨xs, e, h1⟩ := AR.fn_inv hv
  obtain rfl : xs = [] := by cases h1; rfl
  unfold Oper.wp
  have hr : (execOp a.eval o).run P w = .ok (.enter f (args.map a.eval)) w := by
    simp only [execOp, ho, resolve, e, Deferred.ofValue, Sem.run_bind, Sem.run_pure, Result.andThen_ok, invoke]
    simpa using run_callFunc hf _ w
  rw [hr, Oper.upon_enter]
  have hav : AVs W R w (args.toList.map (ev s)) (args.toList.map a.eval) := by
    refine ⟨by simp, fun i y v hy hu => ?_⟩
    rw [List.getElem?_map] at hy hu
    cases hi : args.toList[i]? with
    | none => rw [hi] at hy; cases hy
    | some z =>
      rw [hi] at hy hu
      obtain rfl : ev s z = y := by simpa using hy
      obtain rfl : a.eval z = v := by simpa using hu
      exact hn.ev z
  have hv0 : AVs W0 [] w ((args.toList.map (ev s)).map (E.lend R)) (args.toList.map a.eval) := by
    refine ⟨by simp, fun i x v hx hu => ?_⟩
    rw [List.getElem?_map] at hx
    cases hy : (args.toList.map (ev s))[i]? with
    | none => rw [hy] at hx; cases hx
    | some y =>
      rw [hy] at hx
      obtain rfl := Option.some.inj hx
      exact (hav.2 i y v hy hu).lend hn.sep
  rw [ha] at hv0
  have hh : (args.toList.map a.eval).toArray = args.map a.eval := by
    apply Array.ext'; simp
  have hc := h0 w W0 _ hv0 (Sep.none w)
  rw [hh] at hc
  refine hc.mono ?_
  rintro e' w' ⟨r, S, V, k1, ⟨v, rfl, k2⟩, k3, k4⟩
  obtain ⟨q1, q2⟩ := hq r S k1
  refine ⟨⟨k4.os, k4.tape, k4.output, k4.size, fun b hb => k4.frame b ⟨hb, fun _ h => h⟩⟩, r, S, V, v, k1, q1, q2, rfl, k2, k3, fun i b hi => ?_⟩
  rcases k4.own i b hi with ⟨j, hj⟩ | hj
  · exact hj.elim
  · exact hj

theorem f_call {o : Oper} {x : Operand} {args : Array Operand} {ats : Array TypeId} {f : FuncId} {args' : List AV} {Q : AV → List Res → Prop} (ho : o.op = .call { callee := .value x, args := args, argTypes := ats }) (hx : ev s x = .c (.fn f [])) (hf : callable P f = true)
    (h0 : EFn P f args' [] Q) (ha : (args.toList.map (ev s)).map (E.lend R) = args' := by repeat' (first | (refine lend_whole rfl ?_; first | assumption | exact ints_len _ | exact pairs_len _ | exact quads_len _ | exact quints_len _ | exact bools_len _ | (simp [ints_len, bools_len, pairs_len, quads_len, quints_len, part_len, *]; done) | (simp [ints_len, bools_len, pairs_len, quads_len, quints_len]; omega) | rfl) | refine agg_eq ?_ | (refine lendC_whole rfl ?_; first | assumption | exact ints_len _ | exact pairs_len _ | exact quads_len _ | exact quints_len _ | exact bools_len _ | (simp [ints_len, bools_len, pairs_len, quads_len, quints_len, part_len, *]; done) | (simp [ints_len, bools_len, pairs_len, quads_len, quints_len]; omega) | rfl) | refine cons_eq ?_ ?_ | rfl | (simp [E.lend, E.lendC, E.ev, E.cv, E.get, E.fill', E.fill, AV.sh, AC.sh, Res.sh, ints_len, *]; done))) (hq : ∀ r S, Q r S → r.own = true ∧ S.all Res.own = true := by rintro r S ⟨rfl, rfl⟩; exact ⟨rfl, rfl⟩) : FOp P N o s R Q := F_call ho hx hf h0 ha hq
end

theorem fk_cons {K : Slots → List Res → Prop} {d : Nat} {Q : AV → List Res → Prop} {l : List (Nat × (AV → List Res → Prop))} {s : Slots} {R : List Res} (h : ∀ r S, Q r S → FreshK K l ((d, r.sh R.length) :: s) (R ++ S.map (Res.sh R.length))) : FreshK K ((d, Q) :: l) s R := h
theorem fk_nil {K : Slots → List Res → Prop} {s : Slots} {R : List Res} (h : K s R) : FreshK K [] s R := h

theorem t_fresh {P : Program} {N : Nat} {ops : Array Oper} {s s1 : Slots} {R R1 : List Res} {K : Slots → List Res → Prop} {listed : Array Bool} (f : Nat) (C : List (Chn × (AV → List Res → Prop))) (er : Slots) (ks : List Nat) {CD : List (Nat × (AV → List Res → Prop))}
    (hC : AllOk P N ops (er ++ s) R C) (h : FreshK (fun s' R' => EAnyT P N ops (er ++ s1) R1 f (markAll listed ks) s' R' K) CD (er ++ s) R)
    (her : eras C = er := by rfl) (hks : (C.flatMap fun x => x.1.nums) = ks := by rfl) (hCD : C.map (fun x => (x.1.dst, x.2)) = CD := by rfl) (hchk : chOk ops listed (C.map Prod.fst) = true := by kernel_rfl) (hap : apOk C = true := by kernel_rfl) : EAnyT P N ops s1 R1 (f + cnt C) listed s R K := by
  subst her hks hCD
  exact T_fresh f C hC h hchk hap rfl
end Go.Proofs.Ythlhmpknngidmaa.E

namespace Go.Proofs.Ythlhmpknngidmaa.E
open Go Go.RowKit
set_option linter.unusedVariables false
set_option linter.unusedSimpArgs false

structure MInv (P : Program) (N : Nat) (ops : Array Oper) (sB : Slots) (RB : List Res) (WB : Wit) (a0 : Act) (w0 : World) (L0 : Array Bool) (ed : List Nat) (l : List It) (dn : List Nat) (D : Slots) (U : List Res) (W : Wit) (listed : Array Bool) (a : Act) (w : World) : Prop where
  base : Now N sB RB a0 w0 WB
  now : Now N (D ++ sB) (RB ++ U) a w W
  ownD : ∀ p ∈ D, p.2.own = true
  ownU : U.all Res.own = true
  stab : ∀ i, i < RB.length → W.hs i = WB.hs i ∧ ∀ b, W.fs i b ↔ WB.fs i b
  fresh : ∀ i b, RB.length ≤ i → W.fs i b → w0.heap.size ≤ b
  below : Below w0.heap.size w0 w
  can : ∀ x ∈ l, ChOk P N ops sB RB x.c x.Q
  ok : ∀ x ∈ l, x.st.Ok x.c x.Q a w
  fp : ∀ x ∈ l, ∀ b, x.st.fp b → w0.heap.size ≤ b ∧ b < w.heap.size
  fpW : ∀ x ∈ l, ∀ b, x.st.fp b → ∀ i, ¬ W.fs i b
  apart : l.Pairwise Apart
  size : listed.size = L0.size
  list : ∀ k, listed.getD k false = true ↔ (L0.getD k false = true ∨ k ∈ dn ∨ ∃ x ∈ l, x.st.seen x.c k)
  closed : Closed .any ops listed
  same : ∀ t, t ∉ ed → a.tmps.getD t undef = a0.tmps.getD t undef
  any : ∀ x ∈ l, ∀ d ∈ x.c.dsts, E.get (D ++ sB) d = .any ∧ d ∈ ed
  er : ∀ t ∈ ed, E.get sB t = .any

section
variable {P : Program} {N : Nat} {ops : Array Oper} {sB : Slots} {RB : List Res} {WB : Wit} {a0 : Act} {w0 : World} {L0 : Array Bool} {ed : List Nat}

/-- One's own goes on by a value that hangs on nothing. -/
theorem MInv.pure {l : List It} {dn : List Nat} {D : Slots} {U : List Res} {W : Wit} {listed : Array Bool} {a : Act} {w : World} {i d : Nat} {v : Value} {y : AV}
    (h : MInv P N ops sB RB WB a0 w0 L0 ed l dn D U W listed a w) (hi : i ∈ Region.ready .any ops listed) (hil : i < listed.size) (hN : d < N) (hy : AVR W (RB ++ U) w y v) (ho : y.own = true) (hd : ∀ x ∈ l, d ∉ x.c.dsts) (hsB : d ∈ ed) :
    MInv P N ops sB RB WB a0 w0 L0 ed l (i :: dn) ((d, y) :: D) U W (listed.setIfInBounds i true) (a.put (some d) v) w := by
  refine ⟨h.base, h.now.put hN hy, fun p hp => ?_, h.ownU, h.stab, h.fresh, h.below, h.can, fun x hx => ?_, h.fp, h.fpW, h.apart, by simp [h.size], fun k => ?_, h.closed.step hi, fun t ht => ?_, fun x hx t ht => ?_, h.er⟩
  · rcases List.mem_cons.1 hp with rfl | hp
    · exact ho
    · exact h.ownD p hp
  · have h0 := h.ok x hx
    have hne : ∀ t, t ∈ x.c.dsts → d ≠ t := fun t ht' e => hd x hx (e ▸ ht')
    cases hs : x.st with
    | no => trivial
    | mid g =>
      rw [hs] at h0
      obtain ⟨⟨j, t, e1, e2⟩, e3⟩ := h0
      exact ⟨⟨j, t, e1, by rw [put_getD (hne t (by simp [Chn.dsts, e1]))]; exact e2⟩, e3⟩
    | done r S V u =>
      rw [hs] at h0
      obtain ⟨e1, e2, e3, e4, e5, e6⟩ := h0
      exact ⟨e1, e2, e3, e4, e5, by rw [put_getD (hne x.c.dst (dst_mem _))]; exact e6⟩
  · rw [getD_set hil, h.list k, List.mem_cons]
    constructor
    · rintro (h1 | h1 | h1 | h1)
      · exact .inr (.inl (.inl h1))
      · exact .inl h1
      · exact .inr (.inl (.inr h1))
      · exact .inr (.inr h1)
    · rintro (h1 | (h1 | h1) | h1)
      · exact .inr (.inl h1)
      · exact .inl h1
      · exact .inr (.inr (.inl h1))
      · exact .inr (.inr (.inr h1))
  · have hne : d ≠ t := fun e => ht (e ▸ hsB)
    rw [put_getD hne]; exact h.same t ht
  · have hne : d ≠ t := fun e => hd x hx (e ▸ ht)
    simp only [List.cons_append, E.get, hne, if_false]
    exact h.any x hx t ht

/-- One's own goes on by a call. -/
theorem MInv.call {l : List It} {dn : List Nat} {D : Slots} {U : List Res} {W V : Wit} {S : List Res} {listed : Array Bool} {a : Act} {w w' : World} {i d : Nat} {v : Value} {r : AV}
    (h : MInv P N ops sB RB WB a0 w0 L0 ed l dn D U W listed a w) (hi : i ∈ Region.ready .any ops listed) (hil : i < listed.size) (hN : d < N) (hb : Below w.heap.size w w') (hr : r.own = true) (hS : S.all Res.own = true) (hv : AVR V S w' r v) (hsp : Sep w' V S) (hn : ∀ i b, V.fs i b → w.heap.size ≤ b)
    (hd : ∀ x ∈ l, d ∉ x.c.dsts) (hsB : d ∈ ed) :
    MInv P N ops sB RB WB a0 w0 L0 ed l (i :: dn) ((d, r.sh (RB ++ U).length) :: D) (U ++ S.map (Res.sh (RB ++ U).length)) (Wit.join (RB ++ U).length W V) (listed.setIfInBounds i true) (a.put (some d) v) w' := by
  obtain ⟨tr, sp⟩ := h.now.sep.frame hb hsp hS hn
  have hl : RB.length ≤ (RB ++ U).length := by simp
  refine ⟨h.base, ?_, fun p hp => ?_, by rw [List.all_append, h.ownU, res_shs_own, hS]; rfl, fun j hj => ?_, fun j b hj hf => ?_, h.below.trans (hb.mono h.below.size), h.can, fun x hx => ?_, fun x hx b hb' => ?_, fun x hx b hb' j hj => ?_, h.apart, by simp [h.size], fun k => ?_, h.closed.step hi, fun t ht => ?_, fun x hx t ht => ?_, h.er⟩
  · rw [← List.append_assoc]
    exact (h.now.next tr sp).put hN (hv.sh hr)
  · rcases List.mem_cons.1 hp with rfl | hp
    · rw [av_sh_own]; exact hr
    · exact h.ownD p hp
  · have : j < (RB ++ U).length := by omega
    simp only [Wit.join, this, if_true]
    exact h.stab j hj
  · simp only [Wit.join] at hf
    split at hf
    · exact h.fresh j b hj hf
    · exact Nat.le_trans h.below.size (hn _ b hf)
  · have h0 := h.ok x hx
    have hne : ∀ t, t ∈ x.c.dsts → d ≠ t := fun t ht' e => hd x hx (e ▸ ht')
    have hst : ∀ b, x.st.fp b → w'.heap[b]? = w.heap[b]? := fun b hb' => hb.block b (h.fp x hx b hb').2
    cases hs : x.st with
    | no => trivial
    | mid g =>
      rw [hs] at h0 hst
      obtain ⟨⟨j, t, e1, e2⟩, e3⟩ := h0
      exact ⟨⟨j, t, e1, by rw [put_getD (hne t (by simp [Chn.dsts, e1]))]; exact e2⟩, by rw [hst g rfl]; exact e3⟩
    | done r S V u =>
      rw [hs] at h0 hst
      obtain ⟨e1, e2, e3, e4, e5, e6⟩ := h0
      exact ⟨e1, e2, e3, e4.anyw e2, e5.anyw e3 hb.size (fun j b hj => hst b ⟨j, hj⟩), by rw [put_getD (hne x.c.dst (dst_mem _))]; exact e6⟩
  · have := h.fp x hx b hb'
    exact ⟨this.1, Nat.lt_of_lt_of_le this.2 hb.size⟩
  · simp only [Wit.join] at hj
    split at hj
    · exact h.fpW x hx b hb' _ hj
    · exact absurd (h.fp x hx b hb').2 (by have := hn _ b hj; omega)
  · rw [getD_set hil, h.list k, List.mem_cons]
    constructor
    · rintro (h1 | h1 | h1 | h1)
      · exact .inr (.inl (.inl h1))
      · exact .inl h1
      · exact .inr (.inl (.inr h1))
      · exact .inr (.inr h1)
    · rintro (h1 | (h1 | h1) | h1)
      · exact .inr (.inl h1)
      · exact .inl h1
      · exact .inr (.inr (.inl h1))
      · exact .inr (.inr (.inr h1))
  · have hne : d ≠ t := fun e => ht (e ▸ hsB)
    rw [put_getD hne]; exact h.same t ht
  · have hne : d ≠ t := fun e => hd x hx (e ▸ ht)
    simp only [List.cons_append, E.get, hne, if_false]
    exact h.any x hx t ht
end
end Go.Proofs.Ythlhmpknngidmaa.E

namespace Go.Proofs.Ythlhmpknngidmaa.E
open Go Go.RowKit
set_option linter.unusedVariables false
set_option linter.unusedSimpArgs false

inductive MRun (P : Program) (N : Nat) (ops : Array Oper) (md : List Nat) (KF : Slots → List Res → Prop) : List (Nat × Bool) → Slots → List Res → Prop
  | done {s : Slots} {R : List Res} : KF s R → MRun P N ops md KF [] s R
  | pure {i d : Nat} {o : Oper} {y : AV} {ms : List (Nat × Bool)} {s : Slots} {R : List Res} : ops[i]? = some o → want ops o s = some true → o.dst = some d → d < N → d ∈ md → Pure P o s R y → y.own = true → MRun P N ops md KF ms ((d, y) :: s) R → MRun P N ops md KF ((i, true) :: ms) s R
  | call {i d : Nat} {o : Oper} {Q : AV → List Res → Prop} {ms : List (Nat × Bool)} {s : Slots} {R : List Res} : ops[i]? = some o → want ops o s = some true → o.dst = some d → d < N → d ∈ md → FOp P N o s R Q →
      (∀ r S, Q r S → MRun P N ops md KF ms ((d, r.sh R.length) :: s) (R ++ S.map (Res.sh R.length))) → MRun P N ops md KF ((i, false) :: ms) s R

section
variable {P : Program} {N : Nat} {ops : Array Oper} {sB : Slots} {RB : List Res} {WB : Wit} {a0 : Act} {w0 : World} {L0 : Array Bool} {ed : List Nat}

theorem seen_num {x : It} {k : Nat} (h : x.st.seen x.c k) : k ∈ x.c.nums := by
  cases hs : x.st with
  | no => rw [hs] at h; exact h.elim
  | mid g => rw [hs] at h; obtain ⟨d, e⟩ := h; simp [Chn.nums, e]
  | done r S V v => rw [hs] at h; exact h

theorem MInv.unseen {l : List It} {dn : List Nat} {D : Slots} {U : List Res} {W : Wit} {listed : Array Bool} {a : Act} {w : World} (h : MInv P N ops sB RB WB a0 w0 L0 ed l dn D U W listed a w) {x : It} (hx : x ∈ l) {k : Nat} (hk : k ∈ x.c.nums) (h0 : L0.getD k false = false) (hdn : k ∉ dn) (hns : ¬ x.st.seen x.c k) : listed.getD k false = false := by
  rw [Bool.eq_false_iff]
  intro hl
  rcases (h.list k).1 hl with h3 | h3 | ⟨y, hy, h3⟩
  · rw [h0] at h3; cases h3
  · exact hdn h3
  · have hky := seen_num h3
    by_cases e : y = x
    · subst e; exact hns h3
    · have hp := h.apart
      have : Apart x y ∨ Apart y x := by
        rw [List.pairwise_iff_getElem] at hp
        obtain ⟨i, hi, rfl⟩ := List.mem_iff_getElem.1 hx
        obtain ⟨j, hj, rfl⟩ := List.mem_iff_getElem.1 hy
        rcases Nat.lt_trichotomy i j with h' | h' | h'
        · exact .inl (hp i j hi hj h')
        · subst h'; exact absurd rfl e
        · exact .inr (hp j i hj hi h')
      rcases this with h' | h'
      · exact h'.1 k hk hky
      · exact h'.1 k hky hk

theorem MInv.next {l1 l2 : List It} {x : It} {dn : List Nat} {D : Slots} {U : List Res} {W : Wit} {listed : Array Bool} {a : Act} {w : World} (h : MInv P N ops sB RB WB a0 w0 L0 ed (l1 ++ x :: l2) dn D U W listed a w) (hc : chOk1 ops L0 x.c = true) (hd : chD ops L0 ((l1.map It.c).flatMap Chn.nums) x.c = true)
    (ho : ∀ y ∈ l1, y.over) (hn : ¬ x.over) (hdn : ∀ k ∈ x.c.nums, k ∉ dn) : ∃ i, i ∈ Region.ready .any ops listed := by
  have hx : x ∈ l1 ++ x :: l2 := by simp
  simp only [chOk1, Bool.and_eq_true, List.all_eq_true, decide_eq_true_eq, Bool.not_eq_true'] at hc
  obtain ⟨h1, h2⟩ := hc
  have un : ∀ k ∈ x.c.nums, ¬ x.st.seen x.c k → listed.getD k false = false := fun k hk hns => h.unseen hx hk (h1 k hk).2.2 (hdn k hk) hns
  have hL : ∀ k, (L0.getD k false || ((l1.map It.c).flatMap Chn.nums).contains k) = true → listed.getD k false = true := fun k hk => by
    rw [Bool.or_eq_true] at hk
    rcases hk with hk | hk
    · exact (h.list k).2 (.inl hk)
    · rw [List.contains_iff_mem] at hk
      obtain ⟨c, hc, hk⟩ := List.mem_flatMap.1 hk
      obtain ⟨y, hy, rfl⟩ := List.mem_map.1 hc
      obtain ⟨r, S, V, v, e⟩ := ho y hy
      exact (h.list k).2 (.inr (.inr ⟨y, by simp [hy], by rw [e]; exact hk⟩))
  unfold chD at hd
  cases hm : x.c.mid with
  | none =>
    rw [hm] at hd
    simp only [List.all_eq_true] at hd
    cases hs : x.st with
    | no =>
      have hk := num_mem x.c
      exact ⟨x.c.num, ready_iff.2 ⟨⟨by rw [h.size]; exact (h1 _ hk).2.1, un _ hk (by rw [hs]; exact fun h => h)⟩, (h1 _ hk).1, fun k hk' => hL k (hd k hk')⟩⟩
    | mid g =>
      have := h.ok x hx
      rw [hs] at this
      obtain ⟨⟨i, d, e, _⟩, _⟩ := this
      rw [hm] at e; cases e
    | done r S V v => exact absurd ⟨r, S, V, v, hs⟩ hn
  | some m =>
    rw [hm] at hd h2
    simp only [Bool.and_eq_true, List.all_eq_true, bne_iff_ne] at hd h2
    obtain ⟨h4, h6⟩ := hd
    have h3 := h2.1
    have hk := num_mem x.c
    have hk0 : m.1 ∈ x.c.nums := by simp [Chn.nums, hm]
    cases hs : x.st with
    | no => exact ⟨m.1, ready_iff.2 ⟨⟨by rw [h.size]; exact (h1 _ hk0).2.1, un _ hk0 (by rw [hs]; exact fun h => h)⟩, (h1 _ hk0).1, fun k hk' => hL k (h4 k hk')⟩⟩
    | mid g =>
      refine ⟨x.c.num, ready_iff.2 ⟨⟨by rw [h.size]; exact (h1 _ hk).2.1, un _ hk (by rw [hs]; rintro ⟨d, e⟩; rw [hm] at e; cases e; exact h3 rfl)⟩, (h1 _ hk).1, fun k hk' => ?_⟩⟩
      have h7 := h6 k hk'
      rw [Bool.or_eq_true, beq_iff_eq] at h7
      rcases h7 with rfl | h7
      · exact (h.list _).2 (.inr (.inr ⟨x, hx, by rw [hs]; exact ⟨m.2, hm⟩⟩))
      · exact hL k h7
    | done r S V v => exact absurd ⟨r, S, V, v, hs⟩ hn

end
end Go.Proofs.Ythlhmpknngidmaa.E

namespace Go.Proofs.Ythlhmpknngidmaa.E
open Go Go.RowKit
set_option linter.unusedVariables false
set_option linter.unusedSimpArgs false

section
variable {P : Program} {N : Nat} {ops : Array Oper} {sB : Slots} {RB : List Res} {WB : Wit} {a0 : Act} {w0 : World} {L0 : Array Bool} {ed : List Nat}

theorem MInv.join {l : List It} {dn : List Nat} {D : Slots} {U : List Res} {W V : Wit} {S : List Res} {listed : Array Bool} {a : Act} {w : World} (h : MInv P N ops sB RB WB a0 w0 L0 ed l dn D U W listed a w) (hv : Sep w V S) (hS : S.all Res.own = true)
    (hf : ∀ i b, V.fs i b → w0.heap.size ≤ b ∧ ∃ x ∈ l, x.st.fp b) :
    Trans w0 WB RB w (Wit.join (RB ++ U).length W V) ((RB ++ U) ++ S.map (Res.sh (RB ++ U).length)) ∧ Sep w (Wit.join (RB ++ U).length W V) ((RB ++ U) ++ S.map (Res.sh (RB ++ U).length)) := by
  have hd : ∀ i j b, W.fs i b → ¬ V.fs j b := fun i j b hi hj => by
    obtain ⟨_, x, hx, hp⟩ := hf j b hj
    exact h.fpW x hx b hp i hi
  have hlen : RB.length ≤ (RB ++ U).length := by simp
  have tr : Trans w0 WB RB w (Wit.join (RB ++ U).length W V) ((RB ++ U) ++ S.map (Res.sh (RB ++ U).length)) := by
    refine ⟨h.below.os, h.below.tape, h.below.output, h.below.size, fun b hb => h.below.block b hb.1, fun i b hi => ?_, fun i => ?_⟩
    · simp only [Wit.join] at hi
      split at hi
      · rcases Nat.lt_or_ge i RB.length with h' | h'
        · exact .inl ⟨i, ((h.stab i h').2 b).1 hi⟩
        · exact .inr (h.fresh i b h' hi)
      · exact .inr (hf _ b hi).1
    · rcases Nat.lt_or_ge i RB.length with hi | hi
      · rw [List.append_assoc, List.getElem?_append_left hi]
        have hi2 : i < (RB ++ U).length := by omega
        have : (Wit.join (RB ++ U).length W V).hs i = WB.hs i := by simp only [Wit.join, hi2, if_true]; exact (h.stab i hi).1
        rw [this]; exact Goes.refl _ _
      · rw [List.getElem?_eq_none hi]; exact trivial
  refine ⟨tr, fun i r hr => ?_, fun i hi b hb' => ?_, fun i hi b hb' => ?_, fun i j b hi hj => ?_, fun i b hi => ?_⟩
  · rcases Nat.lt_or_ge i (RB ++ U).length with hi | hi
    · rw [List.getElem?_append_left hi] at hr
      have e1 : (Wit.join (RB ++ U).length W V).hs i = W.hs i := by simp only [Wit.join, hi, if_true]
      have e2 : (Wit.join (RB ++ U).length W V).fs i = W.fs i := by funext b; simp only [Wit.join, hi, if_true]
      rw [e1, e2]
      rcases Nat.lt_or_ge i RB.length with h' | h'
      · rw [List.getElem?_append_left h'] at hr
        obtain ⟨s1, s2⟩ := h.stab i h'
        have s3 : W.fs i = WB.fs i := funext fun b => propext (s2 b)
        rw [s1, s3]
        exact (h.base.sep.res i r hr).next tr fun b hb' => h.below.block b (h.base.sep.lt i b hb')
      · have hr0 := h.now.sep.res i r (by rw [List.getElem?_append_right h'] at hr ⊢; exact hr)
        rw [List.getElem?_append_right h'] at hr
        cases r with
        | box cs =>
          obtain ⟨b, arr, e, f1, f2, f3, f4⟩ := hr0
          have hown : Res.own (.box cs) = true := List.all_eq_true.1 h.ownU _ (List.mem_of_getElem? hr)
          exact ⟨b, arr, e, f1, f2, f3, f4.more hown⟩
        | row e k rows => exact hr0
        | gone => trivial
        | pin x u =>
          obtain ⟨f1, f2⟩ := hr0
          have hown : Res.own (.pin x u) = true := List.all_eq_true.1 h.ownU _ (List.mem_of_getElem? hr)
          exact ⟨f1, f2.more (by simpa [AC.own.owns, Res.own] using hown)⟩
    · have hr' := hr
      rw [show i = (RB ++ U).length + (i - (RB ++ U).length) by omega] at hr'
      obtain ⟨r0, e1, rfl⟩ := join_back hr'
      have e2 : (Wit.join (RB ++ U).length W V).hs i = V.hs (i - (RB ++ U).length) := by simp only [Wit.join, show ¬ i < (RB ++ U).length by omega, if_false]
      have e3 : (Wit.join (RB ++ U).length W V).fs i = V.fs (i - (RB ++ U).length) := by funext b; simp only [Wit.join, show ¬ i < (RB ++ U).length by omega, if_false]
      rw [e2, e3]
      have hr0 := hv.res _ _ e1
      cases r0 with
      | box cs =>
        obtain ⟨b, arr, e, f1, f2, f3, f4⟩ := hr0
        have hown : Res.own (.box cs) = true := List.all_eq_true.1 hS _ (List.mem_of_getElem? e1)
        exact ⟨b, arr, e, f1, f2, f3, f4.sh hown⟩
      | row e k rows => exact hr0
      | gone => trivial
      | pin x u =>
        obtain ⟨f1, f2⟩ := hr0
        have hown : Res.own (.pin x u) = true := List.all_eq_true.1 hS _ (List.mem_of_getElem? e1)
        exact ⟨f1, f2.sh (by simpa [AC.own.owns, Res.own] using hown)⟩
  · simp only [Wit.join] at hb'
    simp only [List.length_append, List.length_map] at hi
    rw [if_neg (by simp; omega)] at hb'
    exact hv.out _ (by simp; omega) b hb'
  · simp only [Wit.join] at hb'
    rcases Nat.lt_or_ge i (RB ++ U).length with h' | h'
    · rw [List.getElem?_append_left h'] at hi
      rw [if_pos h'] at hb'
      exact h.now.sep.gone i hi b hb'
    · rw [if_neg (by omega)] at hb'
      rw [show i = (RB ++ U).length + (i - (RB ++ U).length) by omega] at hi
      obtain ⟨r0, e1, e2⟩ := join_back hi
      have : r0 = .gone := by cases r0 <;> first | rfl | cases e2
      rw [this] at e1
      exact hv.gone _ e1 b hb'
  · simp only [Wit.join] at hi hj
    split at hi <;> split at hj
    · exact h.now.sep.apart i j b hi hj
    · exact absurd hj (hd _ _ b hi)
    · exact absurd hi (hd _ _ b hj)
    · have := hv.apart _ _ b hi hj; omega
  · simp only [Wit.join] at hi
    split at hi
    · exact h.now.sep.lt i b hi
    · exact hv.lt _ b hi
end

section
variable {P : Program} {N : Nat} {s : Slots} {R : List Res} {ops : Array Oper}
variable {md : List Nat} {KF : Slots → List Res → Prop} {ms : List (Nat × Bool)} {i d : Nat} {o : Oper}
end

end Go.Proofs.Ythlhmpknngidmaa.E

namespace Go.Proofs.Ythlhmpknngidmaa.E
open Go Go.RowKit
set_option linter.unusedVariables false
set_option linter.unusedSimpArgs false

end Go.Proofs.Ythlhmpknngidmaa.E

namespace Go.Proofs.Ythlhmpknngidmaa.E
open Go Go.RowKit
set_option linter.unusedVariables false
set_option linter.unusedSimpArgs false

section
variable {P : Program} {N : Nat} {ops : Array Oper} {s s1 : Slots} {R R1 : List Res} {K : Slots → List Res → Prop} {fuel : Nat} {listed listed' : Array Bool}

end
end Go.Proofs.Ythlhmpknngidmaa.E

namespace Go.Proofs.Ythlhmpknngidmaa.E
open Go Go.RowKit
set_option linter.unusedVariables false
set_option linter.unusedSimpArgs false

section
variable {P : Program} {N n : Nat} {ops : Array Oper} {s : Slots} {R RB : List Res} {K : Slots → List Res → Prop} {fuel : Nat} {listed listed' : Array Bool}

def boxKeep : List Res → List Res → Bool
  | [], _ => true
  | .box _ :: l, .box _ :: m => boxKeep l m
  | .box _ :: _, _ => false
  | _ :: l, _ :: m => boxKeep l m
  | _ :: _, [] => false
theorem boxKeep_at : ∀ {l m : List Res}, boxKeep l m = true → ∀ (j : Nat) (cs : List AC), l[j]? = some (Res.box cs) → ∃ cs' : List AC, m[j]? = some (Res.box cs')
  | [], _, _, j, cs, h => by simp at h
  | .box _ :: l, .box c :: m, hk, 0, cs, h => ⟨c, rfl⟩
  | .box _ :: l, .box c :: m, hk, j + 1, cs, h => boxKeep_at (l := l) (m := m) (by simpa [boxKeep] using hk) j cs (by simpa using h)
  | .box _ :: _, [], hk, _, _, _ => by simp [boxKeep] at hk
  | .box _ :: _, .row _ _ _ :: _, hk, _, _, _ => by simp [boxKeep] at hk
  | .box _ :: _, .gone :: _, hk, _, _, _ => by simp [boxKeep] at hk
  | .box _ :: _, .pin _ _ :: _, hk, _, _, _ => by simp [boxKeep] at hk
  | .row _ _ _ :: l, [], hk, _, _, _ => by simp [boxKeep] at hk
  | .gone :: l, [], hk, _, _, _ => by simp [boxKeep] at hk
  | .pin _ _ :: l, [], hk, _, _, _ => by simp [boxKeep] at hk
  | .row _ _ _ :: l, _ :: m, hk, 0, cs, h => by simp at h
  | .gone :: l, _ :: m, hk, 0, cs, h => by simp at h
  | .pin _ _ :: l, _ :: m, hk, 0, cs, h => by simp at h
  | .row _ _ _ :: l, _ :: m, hk, j + 1, cs, h => boxKeep_at (l := l) (m := m) (by simpa [boxKeep] using hk) j cs (by simpa using h)
  | .gone :: l, _ :: m, hk, j + 1, cs, h => boxKeep_at (l := l) (m := m) (by simpa [boxKeep] using hk) j cs (by simpa using h)
  | .pin _ _ :: l, _ :: m, hk, j + 1, cs, h => boxKeep_at (l := l) (m := m) (by simpa [boxKeep] using hk) j cs (by simpa using h)

theorem box_block {wB w : World} {WB W : Wit} (hsB : Sep wB WB RB) (ht : Trans wB WB RB w W R) (hs : Sep w W R) {j : Nat} {cs cs' : List AC} (h1 : RB[j]? = some (.box cs)) (h2 : R[j]? = some (.box cs')) (c : Nat) : WB.fs j c ↔ W.fs j c := by
  obtain ⟨b, arr, e, k1, k2, -, -⟩ := hsB.res j _ h1
  obtain ⟨b', arr', e', k1', k2', -, -⟩ := hs.res j _ h2
  have hg := ht.goes j
  rw [h1, h2] at hg
  have hg' : W.hs j = WB.hs j := hg
  rw [hg', k1] at k1'
  obtain rfl : b = b' := by cases k1'; rfl
  rw [k2 c, k2' c]

end
end Go.Proofs.Ythlhmpknngidmaa.E

namespace Go.Proofs.Ythlhmpknngidmaa.E
open Go Go.RowKit
set_option linter.unusedVariables false
set_option linter.unusedSimpArgs false

end Go.Proofs.Ythlhmpknngidmaa.E

namespace Go.Proofs.Ythlhmpknngidmaa.E
open Go Go.RowKit
set_option linter.unusedVariables false
set_option linter.unusedSimpArgs false
end Go.Proofs.Ythlhmpknngidmaa.E
