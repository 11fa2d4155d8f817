/- Words of the session's own, put together: part 3. -/
import Derived.Test.YthnadkagchbhbaaGreatF2
import Derived.Deep.AppendSrc
import Derived.Laws.IdiomCopy
namespace Go.Proofs.YthnadkagchbhbaaGreat.E
open Go Go.RowKit
set_option linter.unusedVariables false
set_option linter.unusedSimpArgs false

/-! ### 1. What a callee has made, laid behind one's own -/
theorem Sep.frame {w w' : World} {W V : Wit} {R S : List Res} (hs : Sep w W R) (hb : Below w.heap.size w w') (k3 : Sep w' V S) (q2 : S.all Res.own = true) (hnew : ∀ i b, V.fs i b → w.heap.size ≤ b) :
  Trans w W R w' (Wit.join R.length W V) (R ++ S.map (Res.sh R.length)) ∧ Sep w' (Wit.join R.length W V) (R ++ S.map (Res.sh R.length)) := by
 have tr : Trans w W R w' (Wit.join R.length W V) (R ++ S.map (Res.sh R.length)) := by
  refine ⟨hb.os, hb.tape, hb.output, hb.size, fun b hb' => hb.block b hb'.1, fun i b hi => ?_, fun i => ?_⟩
  ·simp only [Wit.join] at hi
   split at hi
   ·exact .inl ⟨i, hi⟩
   ·exact .inr (hnew _ b hi)
  ·rcases Nat.lt_or_ge i R.length with hi | hi
   ·rw [List.getElem?_append_left hi]
    have : (Wit.join R.length W V).hs i = W.hs i := by simp [Wit.join, hi]
    rw [this]; exact Goes.refl _ _
   ·rw [List.getElem?_eq_none hi]; exact trivial
 refine ⟨tr, fun i r hr => ?_, fun i hi b hb' => ?_, fun i hi b hb' => ?_, fun i j b hi hj => ?_, fun i b hi => ?_⟩
 ·rcases Nat.lt_or_ge i R.length with hi | hi
  ·rw [List.getElem?_append_left hi] at hr
   have e1 : (Wit.join R.length W V).hs i = W.hs i := by simp [Wit.join, hi]
   have e2 : (Wit.join R.length W V).fs i = W.fs i := by funext b; simp [Wit.join, hi]
   rw [e1, e2]
   exact (hs.res i r hr).next tr fun b hb' => hb.block b (hs.lt i b hb')
  ·have hr' := hr
   rw [show i = R.length + (i - R.length) by omega] at hr'
   obtain ⟨r0, e1, rfl⟩ := join_back hr'
   have e2 : (Wit.join R.length W V).hs i = V.hs (i - R.length) := by simp [Wit.join, show ¬ i < R.length by omega]
   have e3 : (Wit.join R.length W V).fs i = V.fs (i - R.length) := by funext b; simp [Wit.join, show ¬ i < R.length by omega]
   rw [e2, e3]
   have hr0 := k3.res _ _ e1
   cases r0 with
   | box cs =>
    obtain ⟨b, arr, e, f1, f2, f3, f4⟩ := hr0
    have hown : Res.own (.box cs) = true := List.all_eq_true.1 q2 _ (List.mem_of_getElem? e1)
    exact ⟨b, arr, e, f1, f2, f3, f4.sh hown⟩
   | row e k rows => exact hr0
   | gone => trivial
   | pin x u =>
    obtain ⟨f1, f2⟩ := hr0
    have hown : Res.own (.pin x u) = true := List.all_eq_true.1 q2 _ (List.mem_of_getElem? e1)
    exact ⟨f1, f2.sh (by simpa [AC.own.owns, Res.own] using hown)⟩
 ·simp only [Wit.join] at hb'
  simp only [List.length_append, List.length_map] at hi
  rw [if_neg (by omega)] at hb'
  exact k3.out _ (by omega) b hb'
 ·simp only [Wit.join] at hb'
  rcases Nat.lt_or_ge i R.length with h' | h'
  ·rw [List.getElem?_append_left h'] at hi
   rw [if_pos h'] at hb'
   exact hs.gone i hi b hb'
  ·rw [if_neg (by omega)] at hb'
   rw [show i = R.length + (i - R.length) by omega] at hi
   obtain ⟨r0, e1, e2⟩ := join_back hi
   have : r0 = .gone := by cases r0 <;> first | rfl | cases e2
   rw [this] at e1
   exact k3.gone _ e1 b hb'
 ·simp only [Wit.join] at hi hj
  split at hi <;> split at hj
  ·exact hs.apart i j b hi hj
  ·exact absurd (hs.lt i b hi) (by have := hnew _ b hj; omega)
  ·exact absurd (hs.lt j b hj) (by have := hnew _ b hi; omega)
  ·have := k3.apart _ _ b hi hj; omega
 ·simp only [Wit.join] at hi
  split at hi
  ·exact Nat.lt_of_lt_of_le (hs.lt i b hi) hb.size
  ·exact k3.lt _ b hi

/-- Blocks stay. -/
theorem Sep.stay {w w' : World} {V : Wit} {S : List Res} (hs : Sep w V S) (ho : w'.os = w.os) (ht : w'.tape = w.tape) (hu : w'.output = w.output) (hz : w.heap.size ≤ w'.heap.size) (hb : ∀ b, b < w.heap.size → (∀ i, ¬ V.fs i b) → w'.heap[b]? = w.heap[b]?) (hf : ∀ i b, V.fs i b → w'.heap[b]? = w.heap[b]?) :
  Trans w V S w' V S ∧ Sep w' V S := by
 have tr : Trans w V S w' V S := ⟨ho, ht, hu, hz, fun b hb' => hb b hb'.1 hb'.2, fun i b h => .inl ⟨i, h⟩, fun i => Goes.refl _ _⟩
 exact ⟨tr, fun i r hr => (hs.res i r hr).next tr fun b hb' => hf i b hb', hs.out, hs.gone, hs.apart, fun i b h => Nat.lt_of_lt_of_le (hs.lt i b h) hz⟩

/-! ### 2. Two things of one's own, side by side -/
theorem AR.more {W V : Wit} {R S : List Res} {w : World} {cs : List AC} {vs : List Value} (h : AR W R w cs vs) : AC.own.owns cs = true → AR (Wit.join R.length W V) (R ++ S) w cs vs := by
 have hh : ∀ i, i < R.length → (Wit.join R.length W V).hs i = W.hs i := fun i hi => by simp [Wit.join, hi]
 have hl : ∀ i, i < R.length → i < (R ++ S).length := fun i hi => by simp; omega
 have hg : ∀ i, i < R.length → (R ++ S)[i]? = R[i]? := fun i hi => List.getElem?_append_left hi
 induction h with
 | nil => intro _; exact .nil
 | sc h1 _ ih => intro ho; exact .sc h1 (ih (by simpa [AC.own.owns, AC.own] using ho))
 | any h1 _ ih => intro ho; exact .any h1 (ih (by simpa [AC.own.owns, AC.own] using ho))
 | ro h1 _ ih => intro ho; simp [AC.own.owns, AC.own] at ho
 | rp b o inner h1 h2 h3 h4 _ ih => intro ho; simp [AC.own.owns, AC.own] at ho
 | fn _ _ ih1 ih2 =>
  intro ho
  simp only [AC.own.owns, AC.own, Bool.and_eq_true] at ho
  exact .fn (ih1 ho.1) (ih2 ho.2)
 | sl h1 h2 h3 _ ih => intro ho; exact .sl h1 (hl _ h2) (fun e k rows hr => by rw [hg _ h2] at hr; rw [hh _ h2]; exact h3 e k rows hr) (ih (by simpa [AC.own.owns, AC.own] using ho))
 | ep h1 h2 h3 _ ih => intro ho; exact .ep h1 (hl _ h2) (fun e k rows hr => by rw [hg _ h2] at hr; rw [hh _ h2]; exact h3 e k rows hr) (ih (by simpa [AC.own.owns, AC.own] using ho))
 | bp h1 h2 h3 _ ih => intro ho; exact .bp h1 (hl _ h2) (fun xs hr => by rw [hg _ h2] at hr; rw [hh _ h2]; exact h3 xs hr) (ih (by simpa [AC.own.owns, AC.own] using ho))

theorem AVR.more {W V : Wit} {R S : List Res} {w : World} {x : AV} {v : Value} (h : AVR W R w x v) (ho : x.own = true) : AVR (Wit.join R.length W V) (R ++ S) w x v := by
 cases x with
 | c x => exact AR.more (show AR W R w [x] [v] from h) (by simpa [AC.own.owns, AV.own] using ho)
 | agg xs => obtain ⟨vs, e, h⟩ := h; exact ⟨vs, e, h.more ho⟩
 | tup xs =>
  obtain ⟨us, e, hl, h⟩ := h
  refine ⟨us, e, hl, fun i y u h1 h2 => ?_⟩
  obtain ⟨vs, e1, e2⟩ := h i y u h1 h2
  have hz : AC.own.owns y.2 = true := by
   simp only [AV.own, List.all_eq_true] at ho
   exact ho y (List.mem_of_getElem? h1)
  exact ⟨vs, e1, e2.more hz⟩
 | any => trivial

theorem Sep.side {w : World} {W V : Wit} {R S : List Res} (hs : Sep w W R) (hv : Sep w V S) (q1 : R.all Res.own = true) (q2 : S.all Res.own = true) (hd : ∀ i j b, W.fs i b → ¬ V.fs j b) :
  Sep w (Wit.join R.length W V) (R ++ S.map (Res.sh R.length)) := by
 refine ⟨fun i r hr => ?_, fun i hi b hb' => ?_, fun i hi b hb' => ?_, fun i j b hi hj => ?_, fun i b hi => ?_⟩
 ·rcases Nat.lt_or_ge i R.length with hi | hi
  ·rw [List.getElem?_append_left hi] at hr
   have e1 : (Wit.join R.length W V).hs i = W.hs i := by simp [Wit.join, hi]
   have e2 : (Wit.join R.length W V).fs i = W.fs i := by funext b; simp [Wit.join, hi]
   rw [e1, e2]
   have hr0 := hs.res i r hr
   cases r with
   | box cs =>
    obtain ⟨b, arr, e, f1, f2, f3, f4⟩ := hr0
    have hown : Res.own (.box cs) = true := List.all_eq_true.1 q1 _ (List.mem_of_getElem? hr)
    exact ⟨b, arr, e, f1, f2, f3, f4.more hown⟩
   | row e k rows => exact hr0
   | gone => trivial
   | pin x u =>
    obtain ⟨f1, f2⟩ := hr0
    have hown : Res.own (.pin x u) = true := List.all_eq_true.1 q1 _ (List.mem_of_getElem? hr)
    exact ⟨f1, f2.more (by simpa [AC.own.owns, Res.own] using hown)⟩
  ·have hr' := hr
   rw [show i = R.length + (i - R.length) by omega] at hr'
   obtain ⟨r0, e1, rfl⟩ := join_back hr'
   have e2 : (Wit.join R.length W V).hs i = V.hs (i - R.length) := by simp [Wit.join, show ¬ i < R.length by omega]
   have e3 : (Wit.join R.length W V).fs i = V.fs (i - R.length) := by funext b; simp [Wit.join, show ¬ i < R.length by omega]
   rw [e2, e3]
   have hr0 := hv.res _ _ e1
   cases r0 with
   | box cs =>
    obtain ⟨b, arr, e, f1, f2, f3, f4⟩ := hr0
    have hown : Res.own (.box cs) = true := List.all_eq_true.1 q2 _ (List.mem_of_getElem? e1)
    exact ⟨b, arr, e, f1, f2, f3, f4.sh hown⟩
   | row e k rows => exact hr0
   | gone => trivial
   | pin x u =>
    obtain ⟨f1, f2⟩ := hr0
    have hown : Res.own (.pin x u) = true := List.all_eq_true.1 q2 _ (List.mem_of_getElem? e1)
    exact ⟨f1, f2.sh (by simpa [AC.own.owns, Res.own] using hown)⟩
 ·simp only [Wit.join] at hb'
  simp only [List.length_append, List.length_map] at hi
  rw [if_neg (by omega)] at hb'
  exact hv.out _ (by omega) b hb'
 ·simp only [Wit.join] at hb'
  rcases Nat.lt_or_ge i R.length with h' | h'
  ·rw [List.getElem?_append_left h'] at hi
   rw [if_pos h'] at hb'
   exact hs.gone i hi b hb'
  ·rw [if_neg (by omega)] at hb'
   rw [show i = R.length + (i - R.length) by omega] at hi
   obtain ⟨r0, e1, e2⟩ := join_back hi
   have : r0 = .gone := by cases r0 <;> first | rfl | cases e2
   rw [this] at e1
   exact hv.gone _ e1 b hb'
 ·simp only [Wit.join] at hi hj
  split at hi <;> split at hj
  ·exact hs.apart i j b hi hj
  ·exact absurd hj (hd _ _ b hi)
  ·exact absurd hi (hd _ _ b hj)
  ·have := hv.apart _ _ b hi hj; omega
 ·simp only [Wit.join] at hi
  split at hi
  ·exact hs.lt i b hi
  ·exact hv.lt _ b hi

theorem sh_sh (n m : Nat) : ∀ (c : AC), (c.sh m).sh n = c.sh (n + m)
 | .sl i off len tot => by simp [AC.sh, Nat.add_assoc]
 | .bp i off => by simp [AC.sh, Nat.add_assoc]
 | .ep i j off tot => by simp [AC.sh, Nat.add_assoc]
 | .fn f caps => by simp [AC.sh, shs_shs n m caps]
 | .sc _ => rfl
 | .ro _ => rfl
 | .rp _ => rfl
 | .any => rfl
where shs_shs (n m : Nat) : ∀ (cs : List AC), AC.sh.shs n (AC.sh.shs m cs) = AC.sh.shs (n + m) cs
 | [] => rfl
 | c :: cs => by simp [AC.sh.shs, sh_sh n m c, shs_shs n m cs]

theorem av_sh_sh (n m : Nat) (x : AV) : (x.sh m).sh n = x.sh (n + m) := by
 cases x with
 | c x => simp [AV.sh, sh_sh]
 | agg xs => simp [AV.sh, sh_sh.shs_shs]
 | tup xs => simp [AV.sh, sh_sh.shs_shs]
 | any => rfl
theorem res_sh_sh (n m : Nat) (x : Res) : (x.sh m).sh n = x.sh (n + m) := by
 cases x <;> simp [Res.sh, sh_sh.shs_shs, sh_sh]

theorem sh_own (n : Nat) : ∀ (c : AC), (c.sh n).own = c.own
 | .sl .. => rfl
 | .bp .. => rfl
 | .ep .. => rfl
 | .fn f caps => by simp [AC.sh, AC.own, shs_own n caps]
 | .sc _ => rfl
 | .ro _ => rfl
 | .rp _ => rfl
 | .any => rfl
where shs_own (n : Nat) : ∀ (cs : List AC), AC.own.owns (AC.sh.shs n cs) = AC.own.owns cs
 | [] => rfl
 | c :: cs => by simp [AC.sh.shs, AC.own.owns, sh_own n c, shs_own n cs]
theorem av_sh_own (n : Nat) (x : AV) : (x.sh n).own = x.own := by
 cases x with
 | c x => simp [AV.sh, AV.own, sh_own]
 | agg xs => simp [AV.sh, AV.own, sh_own.shs_own]
 | tup xs => simp [AV.sh, AV.own, sh_own.shs_own, Function.comp_def]
 | any => rfl
theorem res_sh_own (n : Nat) (x : Res) : (x.sh n).own = x.own := by cases x <;> simp [Res.sh, Res.own, sh_own.shs_own, sh_own]
theorem res_shs_own (n : Nat) (S : List Res) : (S.map (Res.sh n)).all Res.own = S.all Res.own := by
 induction S with
 | nil => rfl
 | cons r S ih => simp only [List.map_cons, List.all_cons, res_sh_own, ih]

/-! ### 3. Chains: a call, or an empty slice and what is appended to it -/
structure Chn where
 mid : Option (Nat × Nat)
 num : Nat
 dst : Nat
 e : TypeId

def Chn.nums (c : Chn) : List Nat := match c.mid with | some x => [x.1, c.num] | none => [c.num]
def Chn.dsts (c : Chn) : List Nat := match c.mid with | some x => [x.2, c.dst] | none => [c.dst]

/-- An operation that makes something by itself. -/
def FOp (P : Program) (N : Nat) (o : Oper) (s : Slots) (R : List Res) (Q : AV → List Res → Prop) : Prop :=
 ∀ Qx a w W, Now N s R a w W → o.wp P a w (fun a' w' => Below w.heap.size w w' ∧ ∃ r S V v, Q r S ∧ r.own = true ∧ S.all Res.own = true ∧ a' = a.put o.dst v ∧ AVR V S w' r v ∧ Sep w' V S ∧ ∀ i b, V.fs i b → w.heap.size ≤ b) Qx
def FOp0 (P : Program) (o : Oper) (e : TypeId) : Prop :=
 ∀ Qx a w, o.wp P a w (fun a' w' => a' = a.put o.dst (.slice (some ⟨w.heap.size, 0, none⟩) 0 0) ∧ w' = w.alloc (.cells #[] e)) Qx
def FOp1 (P : Program) (N : Nat) (o : Oper) (dm : Nat) (e : TypeId) (s : Slots) (R : List Res) (Q : AV → List Res → Prop) : Prop :=
 ∀ Qx a w W g, Now N s R a w W → a.tmps.getD dm undef = .slice (some ⟨g, 0, none⟩) 0 0 → w.heap[g]? = some (.cells #[] e (0, 0)) → o.wp P a w (fun a' w' => Below w.heap.size w w' ∧
  ∃ r S V v, Q r S ∧ r.own = true ∧ S.all Res.own = true ∧ a' = a.put o.dst v ∧ AVR V S w' r v ∧ Sep w' V S ∧ ∀ i b, V.fs i b → b = g ∨ w.heap.size ≤ b) Qx

inductive ChOk (P : Program) (N : Nat) (ops : Array Oper) (s : Slots) (R : List Res) : Chn → (AV → List Res → Prop) → Prop
 | one {i d e : Nat} {o : Oper} {Q : AV → List Res → Prop} : ops[i]? = some o → want ops o s = some true → o.dst = some d → d < N → FOp P N o s R Q → ChOk P N ops s R ⟨none, i, d, e⟩ Q
 | two {im dm i d e : Nat} {o om : Oper} {Q : AV → List Res → Prop} : ops[im]? = some om → want ops om s = some true → om.dst = some dm → dm < N → FOp0 P om e → ops[i]? = some o → want ops o s = some true → o.dst = some d → d < N → FOp1 P N o dm e s R Q → ChOk P N ops s R ⟨some (im, dm), i, d, e⟩ Q

inductive St where
 | no
 | mid (g : Nat)
 | done (r : AV) (S : List Res) (V : Wit) (v : Value)

def St.fp : St → Nat → Prop
 | .no, _ => False
 | .mid g, b => b = g
 | .done _ _ V _, b => ∃ i, V.fs i b
def St.seen (c : Chn) : St → Nat → Prop
 | .no, _ => False
 | .mid _, k => ∃ d, c.mid = some (k, d)
 | .done _ _ _ _, k => k ∈ c.nums
def St.left (c : Chn) : St → Nat
 | .no => c.nums.length
 | .mid _ => 1
 | .done _ _ _ _ => 0
def St.Ok (c : Chn) (Q : AV → List Res → Prop) (a : Act) (w : World) : St → Prop
 | .no => True
 | .mid g => (∃ i d, c.mid = some (i, d) ∧ a.tmps.getD d undef = .slice (some ⟨g, 0, none⟩) 0 0) ∧ w.heap[g]? = some (.cells #[] c.e (0, 0))
 | .done r S V v => Q r S ∧ r.own = true ∧ S.all Res.own = true ∧ AVR V S w r v ∧ Sep w V S ∧ a.tmps.getD c.dst undef = v

structure It where
 c : Chn
 Q : AV → List Res → Prop
 st : St

def Apart (x y : It) : Prop := (∀ k ∈ x.c.nums, k ∉ y.c.nums) ∧ (∀ d ∈ x.c.dsts, d ∉ y.c.dsts) ∧ ∀ b, x.st.fp b → ¬ y.st.fp b

theorem AR.anyw {V : Wit} {S : List Res} {w w' : World} {cs : List AC} {vs : List Value} (h : AR V S w cs vs) : AC.own.owns cs = true → AR V S w' cs vs := by
 induction h with
 | nil => intro _; exact .nil
 | sc h1 _ ih => intro ho; exact .sc h1 (ih (by simpa [AC.own.owns, AC.own] using ho))
 | any h1 _ ih => intro ho; exact .any h1 (ih (by simpa [AC.own.owns, AC.own] using ho))
 | ro h1 _ ih => intro ho; simp [AC.own.owns, AC.own] at ho
 | rp b o inner h1 h2 h3 h4 _ ih => intro ho; simp [AC.own.owns, AC.own] at ho
 | fn _ _ ih1 ih2 =>
  intro ho
  simp only [AC.own.owns, AC.own, Bool.and_eq_true] at ho
  exact .fn (ih1 ho.1) (ih2 ho.2)
 | sl h1 h2 h3 _ ih => intro ho; exact .sl h1 h2 h3 (ih (by simpa [AC.own.owns, AC.own] using ho))
 | ep h1 h2 h3 _ ih => intro ho; exact .ep h1 h2 h3 (ih (by simpa [AC.own.owns, AC.own] using ho))
 | bp h1 h2 h3 _ ih => intro ho; exact .bp h1 h2 h3 (ih (by simpa [AC.own.owns, AC.own] using ho))

theorem AVR.anyw {V : Wit} {S : List Res} {w w' : World} {x : AV} {v : Value} (h : AVR V S w x v) (ho : x.own = true) : AVR V S w' x v := by
 cases x with
 | c x => exact AR.anyw (show AR V S w [x] [v] from h) (by simpa [AC.own.owns, AV.own] using ho)
 | agg xs => obtain ⟨vs, e, h⟩ := h; exact ⟨vs, e, h.anyw ho⟩
 | tup xs =>
  obtain ⟨us, e, hl, h⟩ := h
  refine ⟨us, e, hl, fun i y u h1 h2 => ?_⟩
  obtain ⟨vs, e1, e2⟩ := h i y u h1 h2
  have hz : AC.own.owns y.2 = true := by
   simp only [AV.own, List.all_eq_true] at ho
   exact ho y (List.mem_of_getElem? h1)
  exact ⟨vs, e1, e2.anyw hz⟩
 | any => trivial

theorem Sep.anyw {V : Wit} {S : List Res} {w w' : World} (hs : Sep w V S) (ho : S.all Res.own = true) (hz : w.heap.size ≤ w'.heap.size) (hf : ∀ i b, V.fs i b → w'.heap[b]? = w.heap[b]?) : Sep w' V S := by
 refine ⟨fun i r hr => ?_, hs.out, hs.gone, hs.apart, fun i b h => Nat.lt_of_lt_of_le (hs.lt i b h) hz⟩
 have h0 := hs.res i r hr
 cases r with
 | box cs =>
  obtain ⟨b, arr, e, h1, h2, h3, h4⟩ := h0
  exact ⟨b, arr, e, h1, h2, by rw [hf i b ((h2 b).2 rfl)]; exact h3, h4.anyw (List.all_eq_true.1 ho _ (List.mem_of_getElem? hr))⟩
 | row e k rows =>
  obtain ⟨h1, h2, cells, G, h3, h4, h5, h6⟩ := h0
  exact ⟨h1, h2, cells, G, ownsRow_congr h3 fun b hb => hf i b ((h6 b).2 (.inl hb)), h4.mono fun b hb => hf i b ((h6 b).2 (.inr hb)), h5, h6⟩
 | gone => trivial
 | pin x u =>
  obtain ⟨h1, h2⟩ := h0
  exact ⟨h1, h2.anyw (by simpa [AC.own.owns, Res.own] using List.all_eq_true.1 ho _ (List.mem_of_getElem? hr))⟩

structure Inv (P : Program) (N : Nat) (ops : Array Oper) (s : Slots) (R : List Res) (W : Wit) (a0 : Act) (w0 : World) (L0 : Array Bool) (l : List It) (listed : Array Bool) (a : Act) (w : World) : Prop where
 now0 : Now N s R a0 w0 W
 tsize : a.tmps.size = N
 defers : a.defers = []
 below : Below w0.heap.size w0 w
 can : ∀ x ∈ l, ChOk P N ops s R x.c x.Q
 ok : ∀ x ∈ l, x.st.Ok x.c x.Q a w
 fp : ∀ x ∈ l, ∀ b, x.st.fp b → w0.heap.size ≤ b ∧ b < w.heap.size
 apart : l.Pairwise Apart
 size : listed.size = L0.size
 list : ∀ k, listed.getD k false = true ↔ (L0.getD k false = true ∨ ∃ x ∈ l, x.st.seen x.c k)
 closed : Closed .any ops listed
 same : ∀ t, (∀ x ∈ l, t ∉ x.c.dsts) → a.tmps.getD t undef = a0.tmps.getD t undef
 any : ∀ x ∈ l, ∀ d ∈ x.c.dsts, E.get s d = .any

theorem Inv.now {P : Program} {N : Nat} {ops : Array Oper} {s : Slots} {R : List Res} {W : Wit} {a0 : Act} {w0 : World} {L0 listed : Array Bool} {l : List It} {a : Act} {w : World} (h : Inv P N ops s R W a0 w0 L0 l listed a w) : Now N s R a w W := by
 have hs := h.now0.sep
 obtain ⟨tr, sp⟩ := hs.stay h.below.os h.below.tape h.below.output h.below.size (fun b hb _ => h.below.block b hb) (fun i b hb => h.below.block b (hs.lt i b hb))
 refine ⟨h.tsize, h.defers, fun t => ?_, sp⟩
 by_cases e : ∃ x ∈ l, t ∈ x.c.dsts
 ·obtain ⟨x, hx, ht⟩ := e
  rw [h.any x hx t ht]; exact AVR.any ..
 ·rw [h.same t fun x hx ht => e ⟨x, hx, ht⟩]
  exact (h.now0.val t).next tr

def todo (l : List It) : Nat := (l.map fun x => x.st.left x.c).sum

theorem put_getD {a : Act} {d t : Nat} {v : Value} (h : d ≠ t) : (a.put (some d) v).tmps.getD t undef = a.tmps.getD t undef := by
 simp [Act.put, Array.getD_eq_getD_getElem?, Array.getElem?_setIfInBounds, h]
theorem put_getD_self {a : Act} {d N : Nat} {v : Value} (h : d < N) (hs : a.tmps.size = N) : (a.put (some d) v).tmps.getD d undef = v := by
 subst hs
 simp [Act.put, Array.getD_eq_getD_getElem?, h]

theorem getD_set {L : Array Bool} {i k : Nat} (hi : i < L.size) : (L.setIfInBounds i true).getD k false = true ↔ (k = i ∨ L.getD k false = true) := by
 simp only [Array.getD_eq_getD_getElem?]
 by_cases e : i = k
 ·subst e; simp [hi]
 ·simp [Array.getElem?_setIfInBounds_ne e, Ne.symm e]

/-- A chain goes on. -/
theorem Inv.step {P : Program} {N : Nat} {ops : Array Oper} {s : Slots} {R : List Res} {W : Wit} {a0 : Act} {w0 : World} {L0 listed : Array Bool} {l1 l2 : List It} {x : It} {st' : St} {a : Act} {w w' : World} {i d : Nat} {v : Value}
  (h : Inv P N ops s R W a0 w0 L0 (l1 ++ x :: l2) listed a w) (hi : i ∈ Region.ready .any ops listed) (hil : i < listed.size) (hd : d ∈ x.c.dsts) (hN : d < N) (ho : w'.os = w.os) (ht : w'.tape = w.tape) (hu : w'.output = w.output) (hz : w.heap.size ≤ w'.heap.size)
  (hb : ∀ b, b < w.heap.size → ¬ x.st.fp b → w'.heap[b]? = w.heap[b]?) (hok : st'.Ok x.c x.Q (a.put (some d) v) w') (hfp : ∀ b, st'.fp b → (x.st.fp b ∨ w.heap.size ≤ b) ∧ b < w'.heap.size) (hseen : ∀ k, st'.seen x.c k ↔ (x.st.seen x.c k ∨ k = i)) :
  Inv P N ops s R W a0 w0 L0 (l1 ++ { x with st := st' } :: l2) (listed.setIfInBounds i true) (a.put (some d) v) w' := by
 have hmem : ∀ y, y ∈ l1 ++ { x with st := st' } :: l2 → y = { x with st := st' } ∨ (y ∈ l1 ++ l2) := fun y hy => by
  simp only [List.mem_append, List.mem_cons] at hy ⊢
  rcases hy with hy | hy | hy
  ·exact .inr (.inl hy)
  ·exact .inl hy
  ·exact .inr (.inr hy)
 have hin : ∀ y, y ∈ l1 ++ l2 → y ∈ l1 ++ x :: l2 := fun y hy => by
  simp only [List.mem_append, List.mem_cons] at hy ⊢
  rcases hy with hy | hy
  ·exact .inl hy
  ·exact .inr (.inr hy)
 have hx : x ∈ l1 ++ x :: l2 := by simp
 have hap := h.apart
 rw [List.pairwise_append, List.pairwise_cons] at hap
 have hoth : ∀ y, y ∈ l1 ++ l2 → (∀ d ∈ x.c.dsts, d ∉ y.c.dsts) ∧ ∀ b, x.st.fp b → ¬ y.st.fp b := fun y hy => by
  rcases List.mem_append.1 hy with hy | hy
  ·have := hap.2.2 y hy x (List.mem_cons_self ..)
   exact ⟨fun d hd h' => this.2.1 d h' hd, fun b hb h' => this.2.2 b h' hb⟩
  ·have := hap.2.1.1 y hy
   exact ⟨this.2.1, this.2.2⟩
 have hfx : ∀ b, x.st.fp b → w0.heap.size ≤ b := fun b hb => (h.fp x hx b hb).1
 have hbel : Below w0.heap.size w0 w' := h.below.trans ⟨ho, ht, hu, hz, fun b hb' => hb b (Nat.lt_of_lt_of_le hb' h.below.size) fun hf => by have := hfx b hf; omega⟩
 refine ⟨h.now0, by simp [Act.put, h.tsize], h.defers, hbel, fun y hy => ?_, fun y hy => ?_, fun y hy b hb' => ?_, ?_, by simp [h.size], fun k => ?_, h.closed.step hi, fun t ht' => ?_, fun y hy => ?_⟩
 ·rcases hmem y hy with rfl | hy
  ·exact h.can x hx
  ·exact h.can y (hin y hy)
 ·rcases hmem y hy with rfl | hy'
  ·exact hok
  ·have h0 := h.ok y (hin y hy')
   obtain ⟨g1, g2⟩ := hoth y hy'
   have hne : ∀ t, t ∈ y.c.dsts → d ≠ t := fun t ht' e => g1 d hd (e ▸ ht')
   have hst : ∀ b, y.st.fp b → w'.heap[b]? = w.heap[b]? := fun b hb' => hb b (h.fp y (hin y hy') b hb').2 fun hf => g2 b hf hb'
   cases hs : y.st with
   | no => trivial
   | mid g =>
    rw [hs] at h0 hst
    obtain ⟨⟨j, t, e1, e2⟩, e3⟩ := h0
    exact ⟨⟨j, t, e1, by rw [put_getD (hne t (by simp [Chn.dsts, e1]))]; exact e2⟩, by rw [hst g rfl]; exact e3⟩
   | done r S V u =>
    rw [hs] at h0 hst
    obtain ⟨e1, e2, e3, e4, e5, e6⟩ := h0
    exact ⟨e1, e2, e3, e4.anyw e2, e5.anyw e3 hz (fun j b hj => hst b ⟨j, hj⟩), by rw [put_getD (hne y.c.dst (by unfold Chn.dsts; split <;> simp))]; exact e6⟩
 ·rcases hmem y hy with rfl | hy'
  ·obtain ⟨h1, h2⟩ := hfp b hb'
   exact ⟨by rcases h1 with h1 | h1; exact hfx b h1; exact Nat.le_trans h.below.size h1, h2⟩
  ·have := h.fp y (hin y hy') b hb'
   exact ⟨this.1, Nat.lt_of_lt_of_le this.2 hz⟩
 ·have hnew : ∀ y, y ∈ l1 ++ l2 → ∀ b, st'.fp b → ¬ y.st.fp b := fun y hy b h1 h2 => by
   rcases (hfp b h1).1 with h3 | h3
   ·exact (hoth y hy).2 b h3 h2
   ·exact absurd (h.fp y (hin y hy) b h2).2 (by omega)
  rw [List.pairwise_append, List.pairwise_cons]
  refine ⟨hap.1, ⟨fun y hy => ?_, hap.2.1.2⟩, fun y hy z hz' => ?_⟩
  ·have := hap.2.1.1 y hy
   exact ⟨this.1, this.2.1, hnew y (by simp [hy])⟩
  ·rcases List.mem_cons.1 hz' with rfl | hz'
   ·have := hap.2.2 y hy x (List.mem_cons_self ..)
    exact ⟨this.1, this.2.1, fun b h1 h2 => hnew y (by simp [hy]) b h2 h1⟩
   ·exact hap.2.2 y hy z (List.mem_cons_of_mem _ hz')
 ·rw [getD_set hil, h.list k]
  constructor
  ·rintro (rfl | h1 | ⟨y, hy, h1⟩)
   ·exact .inr ⟨{ x with st := st' }, by simp, (hseen _).2 (.inr rfl)⟩
   ·exact .inl h1
   ·simp only [List.mem_append, List.mem_cons] at hy
    rcases hy with hy | rfl | hy
    ·exact .inr ⟨y, by simp [hy], h1⟩
    ·exact .inr ⟨{ y with st := st' }, by simp, (hseen _).2 (.inl h1)⟩
    ·exact .inr ⟨y, by simp [hy], h1⟩
  ·rintro (h1 | ⟨y, hy, h1⟩)
   ·exact .inr (.inl h1)
   ·rcases hmem y hy with rfl | hy'
    ·rcases (hseen _).1 h1 with h1 | h1
     ·exact .inr (.inr ⟨x, hx, h1⟩)
     ·exact .inl h1
    ·exact .inr (.inr ⟨y, hin y hy', h1⟩)
 ·have hdt : d ≠ t := fun e => ht' { x with st := st' } (by simp) (e ▸ hd)
  rw [put_getD hdt]
  refine h.same t fun y hy => ?_
  simp only [List.mem_append, List.mem_cons] at hy
  rcases hy with hy | rfl | hy
  ·exact ht' y (by simp [hy])
  ·exact ht' { y with st := st' } (by simp)
  ·exact ht' y (by simp [hy])
 ·rcases hmem y hy with rfl | hy'
  ·exact h.any x hx
  ·exact h.any y (hin y hy')

/-! ### 4. All orders -/
def afters (ops : Array Oper) (k : Nat) : List Nat := match ops[k]? with | some o => (o.after.toList.filter (Region.binds .any)).map (·.on) | none => []

theorem ready_iff {ops : Array Oper} {listed : Array Bool} {j : Nat} : j ∈ Region.ready .any ops listed ↔ (j < listed.size ∧ listed.getD j false = false) ∧ j < ops.size ∧ ∀ k ∈ afters ops j, listed.getD k false = true := by
 rw [mem_ready]
 have e1 : listed.getD j true = false ↔ (j < listed.size ∧ listed.getD j false = false) := by
  simp only [Array.getD_eq_getD_getElem?]
  rcases Nat.lt_or_ge j listed.size with h | h
  ·simp [h]
  ·simp [Array.getElem?_eq_none h]; omega
 rw [e1]
 unfold afters
 constructor
 ·rintro ⟨h1, o, h2, h3⟩
  refine ⟨h1, (Array.getElem?_eq_some_iff.1 h2).1, fun k hk => ?_⟩
  rw [h2] at hk
  simp only [List.mem_map, List.mem_filter] at hk
  obtain ⟨e, ⟨he, hb⟩, rfl⟩ := hk
  exact h3 e (by simpa using he) hb
 ·rintro ⟨h1, h2, h3⟩
  refine ⟨h1, ops[j], Array.getElem?_eq_getElem h2, fun e he hb => h3 _ ?_⟩
  rw [Array.getElem?_eq_getElem h2]
  simp only [List.mem_map, List.mem_filter]
  exact ⟨e, ⟨by simpa using he, hb⟩, rfl⟩

def chOk1 (ops : Array Oper) (L0 : Array Bool) (c : Chn) : Bool :=
  c.nums.all (fun k => decide (k < ops.size) && (decide (k < L0.size) && !L0.getD k false)) &&
  (match c.mid with
   | some x => x.1 != c.num && (afters ops c.num).contains x.1
   | none => true)
def chD (ops : Array Oper) (L0 : Array Bool) (prev : List Nat) (c : Chn) : Bool :=
 match c.mid with
 | some x => ((afters ops x.1).all fun k => L0.getD k false || prev.contains k) && (afters ops c.num).all fun k => k == x.1 || (L0.getD k false || prev.contains k)
 | none => (afters ops c.num).all fun k => L0.getD k false || prev.contains k
def chAll (ops : Array Oper) (L0 : Array Bool) : List Nat → List Chn → Bool
 | _, [] => true
 | prev, c :: C => chD ops L0 prev c && chAll ops L0 (prev ++ c.nums) C
def chOk (ops : Array Oper) (L0 : Array Bool) (C : List Chn) : Bool :=
 (C.all (chOk1 ops L0) && chAll ops L0 [] C) && (List.range ops.size).all fun k => L0.getD k false || ((C.any fun c => c.nums.contains k) || C.all fun c => (befores .any ops (k + 1) [k]).contains c.num)

theorem chAll_at {ops : Array Oper} {L0 : Array Bool} : ∀ (C1 : List Chn) (prev : List Nat) (c : Chn) (C2 : List Chn), chAll ops L0 prev (C1 ++ c :: C2) = true → chD ops L0 (prev ++ C1.flatMap Chn.nums) c = true
 | [], prev, c, C2, h => by simp only [List.nil_append, chAll, Bool.and_eq_true] at h; simpa using h.1
 | d :: C1, prev, c, C2, h => by
  simp only [List.cons_append, chAll, Bool.and_eq_true] at h
  have := chAll_at C1 _ c C2 h.2
  simpa using this

def It.over (x : It) : Prop := ∃ r S V v, x.st = .done r S V v

theorem todo_split (l1 l2 : List It) (x : It) : todo (l1 ++ x :: l2) = todo l1 + x.st.left x.c + todo l2 := by simp [todo, Nat.add_assoc]

theorem over_of_left {x : It} (h : x.st.left x.c = 0) : x.over := by
 cases hs : x.st with
 | no => rw [hs] at h; simp only [St.left, Chn.nums] at h; split at h <;> simp at h
 | mid g => rw [hs] at h; simp [St.left] at h
 | done r S V v => exact ⟨r, S, V, v, hs⟩

section
variable {P : Program} {N : Nat} {ops : Array Oper} {s : Slots} {R : List Res} {W : Wit} {a0 : Act} {w0 : World} {L0 : Array Bool} {C : List (Chn × (AV → List Res → Prop))}

theorem num_mem (c : Chn) : c.num ∈ c.nums := by unfold Chn.nums; split <;> simp
theorem dst_mem (c : Chn) : c.dst ∈ c.dsts := by unfold Chn.dsts; split <;> simp

theorem Inv.unseen {l : List It} {listed : Array Bool} {a : Act} {w : World} (h : Inv P N ops s R W a0 w0 L0 l listed a w) {x : It} (hx : x ∈ l) {k : Nat} (hk : k ∈ x.c.nums) (h0 : L0.getD k false = false) (hns : ¬ x.st.seen x.c k) : listed.getD k false = false := by
 rw [Bool.eq_false_iff]
 intro hl
 rcases (h.list k).1 hl with h3 | ⟨y, hy, h3⟩
 ·rw [h0] at h3; cases h3
 ·have hky : k ∈ y.c.nums := by
   cases hs : y.st with
   | no => rw [hs] at h3; exact h3.elim
   | mid g => rw [hs] at h3; obtain ⟨d, e⟩ := h3; simp [Chn.nums, e]
   | done r S V v => rw [hs] at h3; exact h3
  by_cases e : y = x
  ·subst e; exact hns h3
  ·have hp := h.apart
   have : Apart x y ∨ Apart y x := by
    rw [List.pairwise_iff_getElem] at hp
    obtain ⟨i, hi, rfl⟩ := List.mem_iff_getElem.1 hx
    obtain ⟨j, hj, rfl⟩ := List.mem_iff_getElem.1 hy
    rcases Nat.lt_trichotomy i j with h' | h' | h'
    ·exact .inl (hp i j hi hj h')
    ·subst h'; exact absurd rfl e
    ·exact .inr (hp j i hj hi h')
   rcases this with h' | h'
   ·exact h'.1 k hk hky
   ·exact h'.1 k hky hk

/-- What the first chain that is not over has next may come up. -/
theorem Inv.next {l1 l2 : List It} {x : It} {listed : Array Bool} {a : Act} {w : World} (h : Inv P N ops s R W a0 w0 L0 (l1 ++ x :: l2) listed a w) (hc : chOk1 ops L0 x.c = true) (hd : chD ops L0 ((l1.map It.c).flatMap Chn.nums) x.c = true) (ho : ∀ y ∈ l1, y.over) (hn : ¬ x.over) : ∃ i, i ∈ Region.ready .any ops listed := by
 have hx : x ∈ l1 ++ x :: l2 := by simp
 simp only [chOk1, Bool.and_eq_true, List.all_eq_true, decide_eq_true_eq, Bool.not_eq_true'] at hc
 obtain ⟨h1, h2⟩ := hc
 have un : ∀ k ∈ x.c.nums, ¬ x.st.seen x.c k → listed.getD k false = false := fun k hk hns => h.unseen hx hk (h1 k hk).2.2 hns
 have hL : ∀ k, (L0.getD k false || ((l1.map It.c).flatMap Chn.nums).contains k) = true → listed.getD k false = true := fun k hk => by
  rw [Bool.or_eq_true] at hk
  rcases hk with hk | hk
  ·exact (h.list k).2 (.inl hk)
  ·rw [List.contains_iff_mem] at hk
   obtain ⟨c, hc, hk⟩ := List.mem_flatMap.1 hk
   obtain ⟨y, hy, rfl⟩ := List.mem_map.1 hc
   obtain ⟨r, S, V, v, e⟩ := ho y hy
   exact (h.list k).2 (.inr ⟨y, by simp [hy], by rw [e]; exact hk⟩)
 unfold chD at hd
 cases hm : x.c.mid with
 | none =>
  rw [hm] at hd
  simp only [List.all_eq_true] at hd
  cases hs : x.st with
  | no =>
   have hk := num_mem x.c
   exact ⟨x.c.num, ready_iff.2 ⟨⟨by rw [h.size]; exact (h1 _ hk).2.1, un _ hk (by rw [hs]; exact fun h => h)⟩, (h1 _ hk).1, fun k hk' => hL k (hd k hk')⟩⟩
  | mid g =>
   have := h.ok x hx
   rw [hs] at this
   obtain ⟨⟨i, d, e, _⟩, _⟩ := this
   rw [hm] at e; cases e
  | done r S V v => exact absurd ⟨r, S, V, v, hs⟩ hn
 | some m =>
  rw [hm] at hd h2
  simp only [Bool.and_eq_true, List.all_eq_true, bne_iff_ne] at hd h2
  obtain ⟨h4, h6⟩ := hd
  have h3 := h2.1
  have hk := num_mem x.c
  have hk0 : m.1 ∈ x.c.nums := by simp [Chn.nums, hm]
  cases hs : x.st with
  | no => exact ⟨m.1, ready_iff.2 ⟨⟨by rw [h.size]; exact (h1 _ hk0).2.1, un _ hk0 (by rw [hs]; exact fun h => h)⟩, (h1 _ hk0).1, fun k hk' => hL k (h4 k hk')⟩⟩
  | mid g =>
   refine ⟨x.c.num, ready_iff.2 ⟨⟨by rw [h.size]; exact (h1 _ hk).2.1, un _ hk (by rw [hs]; rintro ⟨d, e⟩; rw [hm] at e; cases e; exact h3 rfl)⟩, (h1 _ hk).1, fun k hk' => ?_⟩⟩
   have h7 := h6 k hk'
   rw [Bool.or_eq_true, beq_iff_eq] at h7
   rcases h7 with rfl | h7
   ·exact (h.list _).2 (.inr ⟨x, hx, by rw [hs]; exact ⟨m.2, hm⟩⟩)
   ·exact hL k h7
  | done r S V v => exact absurd ⟨r, S, V, v, hs⟩ hn

theorem first_not {p : It → Prop} : ∀ {l : List It}, (∃ x ∈ l, ¬ p x) → ∃ l1 x l2, l = l1 ++ x :: l2 ∧ (∀ y ∈ l1, p y) ∧ ¬ p x
 | [], h => by obtain ⟨x, hx, _⟩ := h; simp at hx
 | y :: l, h => by
  by_cases hy : p y
  ·obtain ⟨x, hx, hn⟩ := h
   rcases List.mem_cons.1 hx with rfl | hx
   ·exact absurd hy hn
   ·obtain ⟨l1, z, l2, rfl, h1, h2⟩ := first_not ⟨x, hx, hn⟩
    exact ⟨y :: l1, z, l2, rfl, fun w hw => by rcases List.mem_cons.1 hw with rfl | hw; exact hy; exact h1 w hw, h2⟩
  ·exact ⟨[], y, l, rfl, by simp, hy⟩

theorem fresh_wp {Sx : World → Prop} {Q : Exit → Act → World → Prop} {f : Nat} (hS : ∀ w, Below w0.heap.size w0 w → Sx w) (hchk : chOk ops L0 (C.map Prod.fst) = true)
  (hdone : ∀ l listed a w, l.map (fun x : It => (x.c, x.Q)) = C → (∀ x ∈ l, x.over) → Inv P N ops s R W a0 w0 L0 l listed a w → wpAnyJ P .any ops Q f Sx listed a w) :
  ∀ (n : Nat) (l : List It) (listed : Array Bool) (a : Act) (w : World), todo l = n → l.map (fun x : It => (x.c, x.Q)) = C → Inv P N ops s R W a0 w0 L0 l listed a w → wpAnyJ P .any ops Q (f + n) Sx listed a w
 | 0, l, listed, a, w, hn, hl, h => by
  refine hdone l listed a w hl (fun x hx => ?_) h
  obtain ⟨l1, l2, rfl⟩ := List.append_of_mem hx
  rw [todo_split] at hn
  exact over_of_left (by omega)
 | n + 1, l, listed, a, w, hn, hl, h => by
  have hC : C.map Prod.fst = l.map It.c := by rw [← hl, List.map_map]; rfl
  rw [hC] at hchk
  simp only [chOk, Bool.and_eq_true, List.all_eq_true] at hchk
  obtain ⟨⟨hc1, hc3⟩, hc2⟩ := hchk
  have hc : ∀ x ∈ l, chOk1 ops L0 x.c = true := fun x hx => hc1 _ (List.mem_map_of_mem hx)
  have hex : ∃ x ∈ l, ¬ x.over := Classical.byContradiction fun hno => by
   have : ∀ (m : List It), (∀ x ∈ m, x.over) → todo m = 0 := fun m => by
    induction m with
    | nil => intro _; rfl
    | cons y m ih =>
     intro hy
     obtain ⟨r, S, V, v, e⟩ := hy y (List.mem_cons_self ..)
     have := ih fun z hz => hy z (List.mem_cons_of_mem _ hz)
     have hz : y.st.left y.c = 0 := by rw [e]; rfl
     simp only [todo, List.map_cons, List.sum_cons] at this ⊢
     omega
   rw [this l fun x hx => Classical.byContradiction fun hno' => hno ⟨x, hx, hno'⟩] at hn
   cases hn
  obtain ⟨x0, hx0, hn0⟩ := hex
  refine ⟨fun h0 => ?_, fun i hi => ?_⟩
  ·obtain ⟨m1, y, m2, rfl, k1, k2⟩ := first_not ⟨x0, hx0, hn0⟩
   rw [List.map_append, List.map_cons] at hc3
   obtain ⟨i, hi⟩ := h.next (hc y (by simp)) (by simpa using chAll_at _ [] _ _ hc3) k1 k2
   rw [h0] at hi; cases hi
  ·have hr := ready_iff.1 hi
   -- it is one of the chains'
   have hmem : ∃ x ∈ l, i ∈ x.c.nums := by
    have := hc2 i (List.mem_range.2 hr.2.1)
    simp only [Bool.or_eq_true, List.any_eq_true, List.all_eq_true, List.mem_map, List.contains_iff_mem] at this
    rcases this with h1 | ⟨c, ⟨x, hx, rfl⟩, h1⟩ | h1
    ·have := (h.list i).2 (.inl h1)
     rw [hr.1.2] at this; cases this
    ·exact ⟨x, hx, h1⟩
    ·have h2 := h1 x0.c ⟨x0, hx0, rfl⟩
     rcases befores_listed h.closed hi (i + 1) [i] (fun m hm => .inl (by simpa using hm)) _ h2 with h3 | h3
     ·exact ⟨x0, hx0, h3 ▸ num_mem _⟩
     ·exfalso
      have h4 := hc x0 hx0
      simp only [chOk1, Bool.and_eq_true, List.all_eq_true, decide_eq_true_eq, Bool.not_eq_true'] at h4
      obtain ⟨h4, h5⟩ := h4
      have := h.unseen hx0 (num_mem _) (h4 _ (num_mem _)).2.2 (fun hs => by
       cases hst : x0.st with
       | no => rw [hst] at hs; exact hs
       | mid g =>
        rw [hst] at hs
        obtain ⟨d, e⟩ := hs
        rw [e] at h5
        simp at h5
       | done r S V v => exact hn0 ⟨r, S, V, v, hst⟩)
      rw [h3] at this; cases this
   obtain ⟨x, hx, hix⟩ := hmem
   have hil : i < listed.size := hr.1.1
   have hnl := hr.1.2
   have hnd : ¬ x.over := fun ⟨r, S, V, v, e⟩ => by
    have := (h.list i).2 (.inr ⟨x, hx, by rw [e]; exact hix⟩)
    rw [hnl] at this; cases this
   have hok := h.ok x hx
   have hcan := h.can x hx
   have hfx := h.fp x hx
   have hnow := h.now
   obtain ⟨c, Qc, st⟩ := x
   obtain ⟨l1, l2, rfl⟩ := List.append_of_mem hx
   rw [todo_split] at hn
   have hbel : ∀ w' : World, w'.os = w.os → w'.tape = w.tape → w'.output = w.output → w.heap.size ≤ w'.heap.size → (∀ b, b < w.heap.size → (∀ (_ : st.fp b), False) → w'.heap[b]? = w.heap[b]?) → Below w0.heap.size w0 w' := fun w' h1 h2 h3 h4 h5 =>
    h.below.trans ⟨h1, h2, h3, h4, fun b hb => h5 b (Nat.lt_of_lt_of_le hb h.below.size) fun hf => by have := (hfx b hf).1; omega⟩
   have hgo : ∀ (st' : St), todo (l1 ++ ⟨c, Qc, st'⟩ :: l2) = n → ∀ (d : Nat) (v : Value) (w' : World), Inv P N ops s R W a0 w0 L0 (l1 ++ ⟨c, Qc, st'⟩ :: l2) (listed.setIfInBounds i true) (a.put (some d) v) w' →
     wpAnyJ P .any ops Q (f + n) Sx (listed.setIfInBounds i true) (a.put (some d) v) w' := fun st' h1 d v w' h2 => fresh_wp hS (by rw [hC]; simp only [chOk, Bool.and_eq_true, List.all_eq_true]; exact ⟨⟨hc1, hc3⟩, hc2⟩) hdone n _ _ _ _ h1 (by simpa using hl) h2
   unfold wpOp
   cases hcan with
   | @one j d e o _ h1 h2 h3 h4 h5 =>
    have hij : i = j := by simpa [Chn.nums] using hix
    subst hij
    cases st with
    | mid g => obtain ⟨⟨_, _, e', _⟩, _⟩ := hok; cases e'
    | done r S V v => exact absurd ⟨r, S, V, v, rfl⟩ hnd
    | no =>
     simp only [h1, want_real hnow h2, if_true]
     refine .inl (Oper.wp_mono (fun a' w' hh => ?_) (h5 _ a w W hnow))
     obtain ⟨hb, r, S, V, v, k1, k2, k3, rfl, k4, k5, k6⟩ := hh
     rw [h3]
     refine .inl ⟨hS _ (hbel w' hb.os hb.tape hb.output hb.size fun b hb' _ => hb.block b hb'), hgo (.done r S V v) (by rw [todo_split]; simp [St.left, Chn.nums] at hn ⊢; omega) d v w' ?_⟩
     refine h.step (x := ⟨_, Qc, .no⟩) (st' := .done r S V v) hi hil (by simp [Chn.dsts]) h4 hb.os hb.tape hb.output hb.size (fun b hb' _ => hb.block b hb') ⟨k1, k2, k3, k4, k5, put_getD_self h4 h.tsize⟩ (fun b hb' => ?_) (fun k => ?_)
     ·obtain ⟨q, hq⟩ := hb'
      exact ⟨.inr (k6 q b hq), k5.lt q b hq⟩
     ·simp [St.seen, Chn.nums]
   | @two im dm j d e o om _ h1 h2 h3 h4 h5 h6 h7 h8 h9 h10 =>
    have hcm := hc1 _ (List.mem_map_of_mem hx)
    simp only [chOk1, Bool.and_eq_true, List.all_eq_true, bne_iff_ne, Bool.or_eq_true, beq_iff_eq, List.contains_iff_mem] at hcm
    obtain ⟨hcm1, hne, hcm3⟩ := hcm
    cases st with
    | done r S V v => exact absurd ⟨r, S, V, v, rfl⟩ hnd
    | no =>
     have hii : i = im := by
      have : i = im ∨ i = j := by simpa [Chn.nums] using hix
      rcases this with h' | h'
      ·exact h'
      ·subst h'
       have := hr.2.2 im hcm3
       have hz := hcm1 im (by simp [Chn.nums])
       simp only [decide_eq_true_eq, Bool.not_eq_true'] at hz
       rw [h.unseen hx (k := im) (by simp [Chn.nums]) hz.2.2 (fun h => h)] at this
       cases this
     subst hii
     simp only [h1, want_real hnow h2, if_true]
     refine .inl (Oper.wp_mono (fun a' w' hh => ?_) (h5 _ a w))
     obtain ⟨rfl, rfl⟩ := hh
     rw [h3]
     refine .inl ⟨hS _ (hbel _ rfl rfl rfl (by simp) fun b hb' _ => heap_alloc_lt w _ b hb'), hgo (.mid w.heap.size) (by rw [todo_split]; simp [St.left, Chn.nums] at hn ⊢; omega) dm _ _ ?_⟩
     refine h.step (x := ⟨_, Qc, .no⟩) (st' := .mid w.heap.size) hi hil (by simp [Chn.dsts]) h4 rfl rfl rfl (by simp) (fun b hb' _ => heap_alloc_lt w _ b hb') ⟨⟨i, dm, rfl, put_getD_self h4 h.tsize⟩, heap_alloc_self ..⟩ (fun b hb' => ?_) (fun k => ?_)
     ·have : b = w.heap.size := hb'
      subst this
      exact ⟨.inr (Nat.le_refl _), by simp⟩
     ·simp [St.seen, eq_comm]
    | mid g =>
     have hii : i = j := by
      have : i = im ∨ i = j := by simpa [Chn.nums] using hix
      rcases this with h' | h'
      ·subst h'
       have := (h.list i).2 (.inr ⟨_, hx, ⟨dm, rfl⟩⟩)
       rw [hnl] at this; cases this
      ·exact h'
     subst hii
     obtain ⟨⟨i', d', e1, e2⟩, e3⟩ := hok
     obtain ⟨rfl, rfl⟩ : im = i' ∧ dm = d' := by cases e1; exact ⟨rfl, rfl⟩
     simp only [h6, want_real hnow h7, if_true]
     refine .inl (Oper.wp_mono (fun a' w' hh => ?_) (h10 _ a w W g hnow e2 e3))
     obtain ⟨hb, r, S, V, v, k1, k2, k3, rfl, k4, k5, k6⟩ := hh
     rw [h8]
     refine .inl ⟨hS _ (hbel w' hb.os hb.tape hb.output hb.size fun b hb' _ => hb.block b hb'), hgo (.done r S V v) (by rw [todo_split]; simp [St.left] at hn ⊢; omega) d v w' ?_⟩
     refine h.step (x := ⟨_, Qc, .mid g⟩) (st' := .done r S V v) hi hil (by simp [Chn.dsts]) h9 hb.os hb.tape hb.output hb.size (fun b hb' _ => hb.block b hb') ⟨k1, k2, k3, k4, k5, put_getD_self h9 h.tsize⟩ (fun b hb' => ?_) (fun k => ?_)
     ·obtain ⟨q, hq⟩ := hb'
      exact ⟨k6 q b hq, k5.lt q b hq⟩
     ·simp [St.seen, Chn.nums, eq_comm]
end

/-! ### 5. All of them behind what stood -/
def FreshK (K : Slots → List Res → Prop) : List (Nat × (AV → List Res → Prop)) → Slots → List Res → Prop
 | [], s, R => K s R
 | x :: l, s, R => ∀ r S, x.2 r S → FreshK K l ((x.1, r.sh R.length) :: s) (R ++ S.map (Res.sh R.length))

def shS (n : Nat) (D : Slots) : Slots := D.map fun p => (p.1, p.2.sh n)

theorem gather {a : Act} {w : World} {Pb : Nat → Prop} {s : Slots} {R : List Res} {K : Slots → List Res → Prop} : ∀ (l : List It) (D : Slots) (S : List Res) (V : Wit), (∀ x ∈ l, x.over) → (∀ x ∈ l, x.st.Ok x.c x.Q a w) → l.Pairwise Apart → Sep w V S → S.all Res.own = true →
  (∀ p ∈ D, p.2.own = true ∧ AVR V S w p.2 (a.tmps.getD p.1 undef)) → (∀ i b, V.fs i b → Pb b) → (∀ x ∈ l, ∀ b, x.st.fp b → Pb b) → (∀ x ∈ l, ∀ i b, V.fs i b → ¬ x.st.fp b) →
  FreshK K (l.map fun x => (x.c.dst, x.Q)) (shS R.length D ++ s) (R ++ S.map (Res.sh R.length)) →
  ∃ D' S' V', K (shS R.length D' ++ s) (R ++ S'.map (Res.sh R.length)) ∧ Sep w V' S' ∧ S'.all Res.own = true ∧ (∀ p ∈ D', p.2.own = true ∧ AVR V' S' w p.2 (a.tmps.getD p.1 undef)) ∧ ∀ i b, V'.fs i b → Pb b
 | [], D, S, V, _, _, _, h1, h2, h3, h4, _, _, hk => ⟨D, S, V, hk, h1, h2, h3, h4⟩
 | x :: l, D, S, V, hov, hok, hap, h1, h2, h3, h4, h5, h6, hk => by
  obtain ⟨r, T, U, v, e⟩ := hov x (List.mem_cons_self ..)
  have k0 := hok x (List.mem_cons_self ..)
  have k5 := h5 x (List.mem_cons_self ..)
  have k6 := h6 x (List.mem_cons_self ..)
  rw [List.pairwise_cons] at hap
  have hapx := hap.1
  rw [e] at k0 k5 k6
  obtain ⟨g1, g2, g3, g4, g5, g6⟩ := k0
  have hV : ∀ i b, (Wit.join S.length V U).fs i b → (∃ j, V.fs j b) ∨ ∃ j, U.fs j b := fun i b h => by
   simp only [Wit.join] at h
   split at h
   ·exact .inl ⟨_, h⟩
   ·exact .inr ⟨_, h⟩
  refine gather l ((x.c.dst, r.sh S.length) :: D) (S ++ T.map (Res.sh S.length)) (Wit.join S.length V U) (fun y hy => hov y (List.mem_cons_of_mem _ hy)) (fun y hy => hok y (List.mem_cons_of_mem _ hy)) hap.2
   (h1.side g5 h2 g3 fun i j b hi hj => k6 i b hi ⟨j, hj⟩) (by rw [List.all_append, h2, res_shs_own, g3]; rfl) (fun p hp => ?_) (fun i b hb => ?_) (fun y hy => h5 y (List.mem_cons_of_mem _ hy)) (fun y hy i b hb hf => ?_) ?_
  ·rcases List.mem_cons.1 hp with rfl | hp
   ·exact ⟨by rw [av_sh_own]; exact g2, by rw [g6]; exact g4.sh g2⟩
   ·obtain ⟨q1, q2⟩ := h3 p hp
    exact ⟨q1, q2.more q1⟩
  ·rcases hV i b hb with ⟨j, hj⟩ | ⟨j, hj⟩
   ·exact h4 j b hj
   ·exact k5 b ⟨j, hj⟩
  ·rcases hV i b hb with ⟨j, hj⟩ | ⟨j, hj⟩
   ·exact h6 y (List.mem_cons_of_mem _ hy) j b hj hf
   ·exact (hapx y hy).2.2 b (by rw [e]; exact ⟨j, hj⟩) hf
  ·have := hk r T g1
   have hl : (R ++ S.map (Res.sh R.length)).length = R.length + S.length := by simp
   rw [hl] at this
   simp only [shS, List.map_cons, List.cons_append, List.map_append, List.map_map, av_sh_sh] at this ⊢
   have hf : (Res.sh R.length ∘ Res.sh S.length) = Res.sh (R.length + S.length) := funext fun x => res_sh_sh _ _ x
   rw [hf, ← List.append_assoc]
   exact this

def eras (C : List (Chn × (AV → List Res → Prop))) : Slots := (C.flatMap fun x => x.1.dsts).map fun d => (d, .any)

theorem get_eras : ∀ (l : List Nat) (s : Slots) (t : Nat), (t ∈ l → E.get (l.map (fun d => (d, AV.any)) ++ s) t = .any) ∧ (¬ t ∈ l → E.get (l.map (fun d => (d, AV.any)) ++ s) t = E.get s t)
 | [], s, t => ⟨fun h => by simp at h, fun _ => rfl⟩
 | d :: l, s, t => by
  obtain ⟨h1, h2⟩ := get_eras l s t
  by_cases e : d = t
  ·subst e; exact ⟨fun _ => by simp [E.get], fun h => absurd (List.mem_cons_self ..) h⟩
  ·refine ⟨fun h => ?_, fun h => ?_⟩
   ·rcases List.mem_cons.1 h with h | h
    ·exact absurd h.symm e
    ·simpa [E.get, e] using h1 h
   ·simpa [E.get, e] using h2 fun h' => h (List.mem_cons_of_mem _ h')

theorem get_shS {n : Nat} {s : Slots} {t : Nat} : ∀ (D : Slots), (∃ p ∈ D, p.1 = t ∧ E.get (shS n D ++ s) t = p.2.sh n) ∨ E.get (shS n D ++ s) t = E.get s t
 | [] => .inr rfl
 | q :: D => by
  by_cases e : q.1 = t
  ·exact .inl ⟨q, List.mem_cons_self .., e, by simp [shS, E.get, e]⟩
  ·rcases get_shS (n := n) (s := s) (t := t) D with ⟨p, h1, h2, h3⟩ | h
   ·exact .inl ⟨p, List.mem_cons_of_mem _ h1, h2, by simpa [shS, E.get, e] using h3⟩
   ·exact .inr (by simpa [shS, E.get, e] using h)

def markAll (L : Array Bool) : List Nat → Array Bool
 | [] => L
 | k :: l => markAll (L.setIfInBounds k true) l

theorem markAll_size : ∀ (l : List Nat) (L : Array Bool), (markAll L l).size = L.size
 | [], _ => rfl
 | k :: l, L => by rw [markAll, markAll_size l]; simp
theorem markAll_get : ∀ (l : List Nat) (L : Array Bool), (∀ k ∈ l, k < L.size) → ∀ k, (markAll L l).getD k false = true ↔ (L.getD k false = true ∨ k ∈ l)
 | [], _, _, k => by simp [markAll]
 | j :: l, L, h, k => by
  rw [markAll, markAll_get l _ (fun i hi => by simpa using h i (List.mem_cons_of_mem _ hi)), getD_set (h j (List.mem_cons_self ..)), List.mem_cons]
  constructor
  ·rintro ((h | h) | h)
   ·exact .inr (.inl h)
   ·exact .inl h
   ·exact .inr (.inr h)
  ·rintro (h | h | h)
   ·exact .inl (.inr h)
   ·exact .inl (.inl h)
   ·exact .inr h

theorem bools_ext {A B : Array Bool} (hs : A.size = B.size) (h : ∀ k, A.getD k false = true ↔ B.getD k false = true) : A = B := by
 apply Array.ext hs
 intro i h1 h2
 have := h i
 simp only [Array.getD_eq_getD_getElem?, Array.getElem?_eq_getElem h1, Array.getElem?_eq_getElem h2, Option.getD_some] at this
 exact Bool.eq_iff_iff.2 this

def apOk : List (Chn × (AV → List Res → Prop)) → Bool
 | [] => true
 | x :: C => (C.all fun y => (x.1.nums.all fun k => !y.1.nums.contains k) && x.1.dsts.all fun d => !y.1.dsts.contains d) && apOk C

theorem apOk_pair : ∀ (C : List (Chn × (AV → List Res → Prop))), apOk C = true → (C.map fun x => (⟨x.1, x.2, .no⟩ : It)).Pairwise Apart
 | [], _ => .nil
 | x :: C, h => by
  simp only [apOk, Bool.and_eq_true, List.all_eq_true, Bool.not_eq_true'] at h
  rw [List.map_cons, List.pairwise_cons]
  refine ⟨fun y hy => ?_, apOk_pair C h.2⟩
  obtain ⟨z, hz, rfl⟩ := List.mem_map.1 hy
  obtain ⟨h1, h2⟩ := h.1 z hz
  refine ⟨fun k hk hk' => ?_, fun d hd hd' => ?_, fun b hb => hb.elim⟩
  ·have := h1 k hk; simp at this; exact this hk'
  ·have := h2 d hd; simp at this; exact this hd'

def AllOk (P : Program) (N : Nat) (ops : Array Oper) (s : Slots) (R : List Res) : List (Chn × (AV → List Res → Prop)) → Prop
 | [] => True
 | x :: C => ChOk P N ops s R x.1 x.2 ∧ AllOk P N ops s R C
theorem AllOk.mem {P : Program} {N : Nat} {ops : Array Oper} {s : Slots} {R : List Res} : ∀ {C : List (Chn × (AV → List Res → Prop))}, AllOk P N ops s R C → ∀ x ∈ C, ChOk P N ops s R x.1 x.2
 | _ :: _, h, x, hx => by
  rcases List.mem_cons.1 hx with rfl | hx
  ·exact h.1
  ·exact h.2.mem x hx

def cnt (C : List (Chn × (AV → List Res → Prop))) : Nat := (C.map fun x => x.1.nums.length).sum

/-- Chains come up in any order: behind them all stands what they made, one behind the other. -/
theorem T_fresh {P : Program} {N : Nat} {ops : Array Oper} {s s1 : Slots} {R R1 : List Res} {K : Slots → List Res → Prop} {listed listed' : Array Bool} (f : Nat) (C : List (Chn × (AV → List Res → Prop)))
  (hC : AllOk P N ops (eras C ++ s) R C) (h : FreshK (fun s' R' => EAnyT P N ops (eras C ++ s1) R1 f listed' s' R' K) (C.map fun x => (x.1.dst, x.2)) (eras C ++ s) R)
  (hchk : chOk ops listed (C.map Prod.fst) = true) (hap : apOk C = true) (hl : markAll listed (C.flatMap fun x => x.1.nums) = listed') :
  EAnyT P N ops s1 R1 (f + cnt C) listed s R K := by
 subst hl
 intro G w1 W1 a0 w0 W hn1 ht hn hb hc hq
 have hds : ∀ x ∈ C, ∀ d ∈ x.1.dsts, d ∈ C.flatMap fun x => x.1.dsts := fun x hx d hd => List.mem_flatMap.2 ⟨x, hx, hd⟩
 have hn0 : Now N (eras C ++ s) R a0 w0 W := hn.sub fun t => by
  by_cases e : t ∈ C.flatMap fun x => x.1.dsts
  ·exact .inl ((get_eras _ s t).1 e)
  ·exact .inr ((get_eras _ s t).2 e).symm
 have hnum : ∀ x ∈ C, ∀ k ∈ x.1.nums, k < listed.size := fun x hx k hk => by
  simp only [chOk, Bool.and_eq_true, List.all_eq_true, List.mem_map] at hchk
  have := hchk.1.1 x.1 ⟨x, hx, rfl⟩
  simp only [chOk1, Bool.and_eq_true, List.all_eq_true, decide_eq_true_eq, Bool.not_eq_true'] at this
  exact (this.1 k hk).2.1
 have key := fresh_wp (P := P) (N := N) (ops := ops) (s := eras C ++ s) (R := R) (W := W) (a0 := a0) (w0 := w0) (L0 := listed) (C := C) (Sx := fun w' => Below w1.heap.size w1 w') (Q := fun ex a' w' => ex = .normal ∧ G a' w') (f := f)
  (fun w hw => hb.trans (hw.mono hb.size)) hchk (fun l lst a w hl hov hi => ?_) (cnt C) (C.map fun x => ⟨x.1, x.2, .no⟩) listed a0 w0 (by simp [todo, cnt, St.left, Function.comp_def]) (by simp [Function.comp_def])
  ⟨hn0, hn.size, hn.defers, Below.refl _ _, fun x hx => by
    obtain ⟨y, hy, rfl⟩ := List.mem_map.1 hx
    exact hC.mem y hy, fun x hx => by
    obtain ⟨y, hy, rfl⟩ := List.mem_map.1 hx
    trivial, fun x hx b hb => by
    obtain ⟨y, hy, rfl⟩ := List.mem_map.1 hx
    exact hb.elim, apOk_pair C hap, rfl, fun k => ⟨.inl, fun h => by
     rcases h with h | ⟨x, hx, h⟩
     ·exact h
     ·obtain ⟨y, hy, rfl⟩ := List.mem_map.1 hx
      exact h.elim⟩, hc, fun t _ => rfl, fun x hx d hd => by
    obtain ⟨y, hy, rfl⟩ := List.mem_map.1 hx
    exact (get_eras _ s d).1 (hds y hy d hd)⟩
 ·exact key
 ·have hmemC : ∀ x ∈ l, (x.c, x.Q) ∈ C := fun x hx => hl ▸ List.mem_map.2 ⟨x, hx, rfl⟩
  have hmeml : ∀ y ∈ C, ∃ x ∈ l, x.c = y.1 := fun y hy => by
   rw [← hl] at hy
   obtain ⟨x, hx, rfl⟩ := List.mem_map.1 hy
   exact ⟨x, hx, rfl⟩
  have hlst : markAll listed (C.flatMap fun x => x.1.nums) = lst := by
   refine bools_ext (by rw [markAll_size, hi.size]) fun k => ?_
   rw [markAll_get _ _ (fun k hk => by
    obtain ⟨x, hx, hk⟩ := List.mem_flatMap.1 hk
    exact hnum x hx k hk), hi.list k]
   constructor
   ·rintro (h1 | h1)
    ·exact .inl h1
    ·obtain ⟨y, hy, hk⟩ := List.mem_flatMap.1 h1
     obtain ⟨x, hx, e⟩ := hmeml y hy
     obtain ⟨r, S, V, v, e2⟩ := hov x hx
     exact .inr ⟨x, hx, by rw [e2]; show k ∈ x.c.nums; rw [e]; exact hk⟩
   ·rintro (h1 | ⟨x, hx, h1⟩)
    ·exact .inl h1
    ·obtain ⟨r, S, V, v, e2⟩ := hov x hx
     rw [e2] at h1
     exact .inr (List.mem_flatMap.2 ⟨_, hmemC x hx, h1⟩)
  subst hlst
  have hmap : (l.map fun x => (x.c.dst, x.Q)) = C.map fun x => (x.1.dst, x.2) := by rw [← hl, List.map_map]; rfl
  rw [← hmap] at h
  obtain ⟨D, S, V, hK, g1, g2, g3, g4⟩ := gather (a := a) (w := w) (Pb := fun b => w0.heap.size ≤ b) (s := eras C ++ s) (R := R) l [] [] W0 hov hi.ok hi.apart (Sep.none w) rfl (fun p hp => by simp at hp) (fun i b h => h.elim) (fun x hx b hb => (hi.fp x hx b hb).1) (fun x hx i b h => h.elim) (by simpa [shS] using h)
  obtain ⟨tr, sp⟩ := hn.sep.frame hi.below g1 g2 g4
  have hnow : Now N (shS R.length D ++ (eras C ++ s)) (R ++ S.map (Res.sh R.length)) a w (Wit.join R.length W V) := by
   refine ⟨hi.tsize, hi.defers, fun t => ?_, sp⟩
   rcases get_shS (n := R.length) (s := eras C ++ s) (t := t) D with ⟨p, h1, rfl, h3⟩ | h3
   ·rw [h3]
    obtain ⟨q1, q2⟩ := g3 p h1
    exact q2.sh q1
   ·rw [h3]
    by_cases e : ∃ x ∈ l, t ∈ x.c.dsts
    ·obtain ⟨x, hx, hd⟩ := e
     rw [hi.any x hx t hd]; exact AVR.any ..
    ·rw [hi.same t fun x hx hd => e ⟨x, hx, hd⟩]
     exact (hn0.val t).next tr
  have hn1' : Now N (eras C ++ s1) R1 a w1 W1 := by
   refine ⟨hi.tsize, hi.defers, fun t => ?_, hn1.sep⟩
   by_cases e : t ∈ C.flatMap fun x => x.1.dsts
   ·have := (get_eras _ s1 t).1 e
    rw [show E.get (eras C ++ s1) t = .any from this]; exact AVR.any ..
   ·have := (get_eras _ s1 t).2 e
    rw [show E.get (eras C ++ s1) t = E.get s1 t from this, hi.same t fun x hx hd => e (hds _ (hmemC x hx) t hd)]
    exact hn1.val t
  exact hK G w1 W1 a w _ hn1' (ht.trans tr) hnow (hb.trans (hi.below.mono hb.size)) hi.closed fun a' w' hr => hq a' w' (hr.after tr)

end Go.Proofs.YthnadkagchbhbaaGreat.E

namespace Go.Proofs.YthnadkagchbhbaaGreat.E
open Go Go.RowKit
set_option linter.unusedVariables false
set_option linter.unusedSimpArgs false

section
variable {P : Program} {N : Nat} {s : Slots} {R : List Res}

theorem F_call {o : Oper} {x : Operand} {args : Array Operand} {ats : Array TypeId} {f : FuncId} {args' : List AV} {Q : AV → List Res → Prop} (ho : o.op = .call { callee := .value x, args := args, argTypes := ats }) (hx : ev s x = .c (.fn f [])) (hf : callable P f = true)
  (h0 : EFn P f args' [] Q) (ha : (args.toList.map (ev s)).map (E.lend R) = args') (hq : ∀ r S, Q r S → r.own = true ∧ S.all Res.own = true) : FOp P N o s R Q := by
 intro Q' a w W hn
 have hv := hn.ev x
 rw [hx] at hv
 obtain ⟨xs, e, h1⟩ := AR.fn_inv hv
 obtain rfl : xs = [] := by cases h1; rfl
 unfold Oper.wp
 have hr : (execOp a.eval o).run P w = .ok (.enter f (args.map a.eval)) w := by
  simp only [execOp, ho, resolve, e, Deferred.ofValue, Sem.run_bind, Sem.run_pure, Result.andThen_ok, invoke]
  simpa using run_callFunc hf _ w
 rw [hr, Oper.upon_enter]
 have hav : AVs W R w (args.toList.map (ev s)) (args.toList.map a.eval) := by
  refine ⟨by simp, fun i y v hy hu => ?_⟩
  rw [List.getElem?_map] at hy hu
  cases hi : args.toList[i]? with
  | none => rw [hi] at hy; cases hy
  | some z =>
   rw [hi] at hy hu
   obtain rfl : ev s z = y := by simpa using hy
   obtain rfl : a.eval z = v := by simpa using hu
   exact hn.ev z
 have hv0 : AVs W0 [] w ((args.toList.map (ev s)).map (E.lend R)) (args.toList.map a.eval) := by
  refine ⟨by simp, fun i x v hx hu => ?_⟩
  rw [List.getElem?_map] at hx
  cases hy : (args.toList.map (ev s))[i]? with
  | none => rw [hy] at hx; cases hx
  | some y =>
   rw [hy] at hx
   obtain rfl := Option.some.inj hx
   exact (hav.2 i y v hy hu).lend hn.sep
 rw [ha] at hv0
 have hh : (args.toList.map a.eval).toArray = args.map a.eval := by
  apply Array.ext'; simp
 have hc := h0 w W0 _ hv0 (Sep.none w)
 rw [hh] at hc
 refine hc.mono ?_
 rintro e' w' ⟨r, S, V, k1, ⟨v, rfl, k2⟩, k3, k4⟩
 obtain ⟨q1, q2⟩ := hq r S k1
 refine ⟨⟨k4.os, k4.tape, k4.output, k4.size, fun b hb => k4.frame b ⟨hb, fun _ h => h⟩⟩, r, S, V, v, k1, q1, q2, rfl, k2, k3, fun i b hi => ?_⟩
 rcases k4.own i b hi with ⟨j, hj⟩ | hj
 ·exact hj.elim
 ·exact hj

theorem F_bslice {o : Oper} {t e k : Nat} {bb : Bool} (ho : o.op = .buildSlice t 0 #[]) (ht : isSlice P t = some e) (hty : tyIs P e = some (bb, k)) : FOp0 P o e := by
 intro Q a w
 unfold Oper.wp
 have hr : (execOp a.eval o).run P w = .ok (.value (.slice (some ⟨w.heap.size, 0, none⟩) 0 0)) (w.alloc (.cells #[] e)) := by
  have e0 : (Array.range (0 * k)).map (fun i => (#[] : Array Value)[i % (#[] : Array Value).size]!) = #[] := by apply Array.ext'; simp
  simp only [execOp, ho, Instr.buildSlice, Sem.run_bind, run_underlying_ (isSlice_of ht), Result.andThen_ok, run_sizeOf_ hty, Sem.run_pure, Nat.zero_mul]
  simp only [show (Array.range 0) = #[] from by apply Array.ext'; simp]
  simp [Instr.fill]
  rfl
 rw [hr, Oper.upon_value]
 exact ⟨rfl, rfl⟩

theorem F_append {o : Oper} {t e k bytes dm : Nat} {y : Operand} {bb : Bool} {zs : List AC} {news : List (List T)} (ho : o.op = .call { callee := .builtin .append, args := #[.tmp dm, y], argTypes := #[t, t] })
  (ht : isSlice P t = some e) (hty : tyIs P e = some (bb, k)) (hby : (P.info? e).map (·.bytes) = some bytes) (hz : zav P e = some zs) (hzl : zs.length = k ∧ 0 < k)
  (hy : E.lend R (ev s y) = .c (.ro news)) (hnews : ∀ r ∈ news, r.length = k ∧ r.all isSc = true) (hsz : news.length ≤ 9223372036854775807 ∧ news.length * bytes ≤ 140737488355328) :
  FOp1 P N o dm e s R (fun r S => r = .c (.sl 0 0 news.length news.length) ∧ S = [.row e k news]) := by
 intro Q a w W g hn hm hg
 obtain ⟨ad, c, inner, e1, e2, e3, e4, e5⟩ := src_of hn hy hnews
 obtain ⟨inf, z, z1, z2, z3, z4, rfl, z6⟩ := by_parts hty hby hz
 have hzk : z.cells.size = k := by have := hzl.1; simpa using this
 have hv : a.eval (.tmp dm) = .slice (some ⟨g, 0, none⟩) 0 0 := hm
 have f3 : w.ownsRow 0 e k (.slice (some ⟨g, 0, none⟩) 0 0) 0 [] := ⟨by simp, .inr ⟨g, 0, #[], rfl, Nat.zero_le _, hg, Nat.le_refl _, Nat.zero_le _, by simp, by simp⟩⟩
 have f0 : w.ownsRow 0 e k (.slice none 0 0) 0 [] := World.ownsRow_nil w 0 e k
 have hrun : ∀ v' w', (Builtin.append_ #[t, t] o.type #[.slice (some ⟨g, 0, none⟩) 0 0, .slice ad news.length c]).run P w = .ok v' w' → (execOp a.eval o).run P w = .ok (.value v') w' := fun v' w' hr => by
  simp only [execOp, ho, resolve, Sem.run_bind, Sem.run_pure, Result.andThen_ok, invoke, builtin]
  simp only [List.map_toArray, List.map_cons, List.map_nil, hv, e1, hr, Result.andThen_ok]
 have key : ∃ v' w', (Builtin.append_ #[t, t] o.type #[.slice (some ⟨g, 0, none⟩) 0 0, .slice ad news.length c]).run P w = .ok v' w' ∧ w'.ownsRow 0 e k v' news.length inner ∧ w.grownBy w' none ∧ (∀ b, v'.ownBlock = some b → b = g ∨ w.heap.size ≤ b) := by
  by_cases h0 : news = []
  ·subst h0
   obtain rfl : inner = [] := List.eq_nil_of_length_eq_zero (by simpa using e2)
   exact ⟨_, w, run_append_zero (isSlice_of ht) hty f3 ad c, f3, ⟨rfl, rfl, rfl, Nat.le_refl _, fun _ _ _ => rfl⟩, fun b hb => by cases hb; exact .inl rfl⟩
  ·have hpos := List.length_pos_iff.2 h0
   obtain ⟨b, oo, rfl, hc⟩ := e3 hpos
   have hcell : ∀ j u, inner[j]? = some u → w.cell? ((⟨b, oo, none⟩ : Addr).add j) = some u := fun j u hj => by rw [add_plain]; exact hc j u hj
   have hsrc : Src P inf.size t (.slice (some ⟨b, oo, none⟩) news.length c) news.length inner w := Src.ofSlice w (isSlice_of ht) ⟨b, oo, none⟩ news.length c inner (by rw [z3]; exact e2) hcell e4
   have hfit : Builtin.nextslicecap (0 + news.length) 0 * inf.bytes ≤ 281474976710656 := growslice_fits (by omega) (by rw [z4, Nat.zero_add]; exact hsz.2)
   have g1 := run_append_grow_src w t t o.type e inf z (isSlice_of ht) z1 z2 (some ⟨g, 0, none⟩) 0 0 [] (run_firstCells_some w.drew inf.size 0 ⟨g, 0, none⟩ 0 0 [] (by simp) (by simp)) _ news.length inner hsrc (by omega) (by omega) hfit
   have g2 := run_append_grow_src w t t o.type e inf z (isSlice_of ht) z1 z2 none 0 0 [] (run_firstCells_none w.drew inf.size 0 0 0) _ news.length inner hsrc (by omega) (by omega) hfit
   obtain ⟨v', w', r1, r2, r3, r4, r5⟩ := run_append_own_at (P := P) w 0 t o.type e inf z k bytes (isSlice_of ht) z1 z2 z3 z4 hzk hzl.2 (.slice none 0 0) 0 [] f0 ⟨b, oo, none⟩ news.length c inner e2 hcell e4 (by unfold maxLen; omega) (by rw [Nat.zero_add]; exact hsz.2) (Nat.zero_le _)
   refine ⟨v', w', by rw [g1, ← g2]; exact r1, by simpa using r2, r3, fun b hb => ?_⟩
   rcases r5 with r5 | r5
   ·rw [r5] at hb; cases hb
   ·rw [r5] at hb; cases hb; exact .inr (Nat.le_refl _)
 obtain ⟨v', w', r1, r2, r3, r4⟩ := key
 unfold Oper.wp
 rw [hrun _ _ r1, Oper.upon_value]
 have hS : Sep w' ⟨fun _ => v', fun i b => i = 0 ∧ v'.ownBlock = some b⟩ [.row e k news] := by
  refine ⟨fun i r hr => ?_, fun i hi b hb => ?_, fun i hi b hb => ?_, fun i j b hi hj => by rw [hi.1, hj.1], fun i b hb => (r2.lt b hb.2).2⟩
  ·cases i with
   | zero =>
    obtain rfl : Res.row e k news = r := by simpa using hr
    exact ⟨hzl.2, fun r hr => (hnews r hr).1, inner, fun _ => False, r2, e5 w', fun b _ h => h, fun b => by simp⟩
   | succ i => simp at hr
  ·rw [hb.1] at hi; simp at hi
  ·rw [hb.1] at hi; simp at hi
 exact ⟨⟨r3.os, r3.tape, r3.output, r3.size, fun b hb => r3.block b hb (by simp)⟩, _, _, _, v', ⟨rfl, rfl⟩, rfl, rfl, rfl, sl_whole (e := e) (k := k) (rows := news) (by simp) rfl rfl (by rcases r2.2 with ⟨rfl, _⟩ | ⟨g, cap, cur, rfl, _⟩ <;> rfl) hS, hS, fun i b hb => r4 b hb.2⟩

theorem f_call {o : Oper} {x : Operand} {args : Array Operand} {ats : Array TypeId} {f : FuncId} {args' : List AV} {Q : AV → List Res → Prop} (ho : o.op = .call { callee := .value x, args := args, argTypes := ats }) (hx : ev s x = .c (.fn f [])) (hf : callable P f = true)
  (h0 : EFn P f args' [] Q) (ha : (args.toList.map (ev s)).map (E.lend R) = args' := by repeat' (first | (refine lend_whole rfl ?_; first | assumption | exact ints_len _ | exact pairs_len _ | exact quads_len _ | exact quints_len _ | exact bools_len _ | (simp [ints_len, bools_len, pairs_len, quads_len, quints_len, part_len, *]; done) | (simp [ints_len, bools_len, pairs_len, quads_len, quints_len]; omega) | rfl) | refine agg_eq ?_ | (refine lendC_whole rfl ?_; first | assumption | exact ints_len _ | exact pairs_len _ | exact quads_len _ | exact quints_len _ | exact bools_len _ | (simp [ints_len, bools_len, pairs_len, quads_len, quints_len, part_len, *]; done) | (simp [ints_len, bools_len, pairs_len, quads_len, quints_len]; omega) | rfl) | refine cons_eq ?_ ?_ | rfl | (simp [E.lend, E.lendC, E.ev, E.cv, E.get, E.fill', E.fill, AV.sh, AC.sh, Res.sh, ints_len, *]; done))) (hq : ∀ r S, Q r S → r.own = true ∧ S.all Res.own = true := by rintro r S ⟨rfl, rfl⟩; exact ⟨rfl, rfl⟩) : FOp P N o s R Q := F_call ho hx hf h0 ha hq
theorem f_append {o : Oper} {t e k bytes dm : Nat} {y : Operand} {bb : Bool} {zs : List AC} {news : List (List T)} {m : Nat} (ho : o.op = .call { callee := .builtin .append, args := #[.tmp dm, y], argTypes := #[t, t] })
  (ht : isSlice P t = some e) (hty : tyIs P e = some (bb, k)) (hby : (P.info? e).map (·.bytes) = some bytes) (hz : zav P e = some zs) (hm : news.length = m) (hzl : zs.length = k ∧ 0 < k := by exact ⟨rfl, by decide⟩)
  (hy : E.lend R (ev s y) = .c (.ro news) := by first | (refine lend_whole rfl ?_; first | assumption | exact ints_len _ | exact pairs_len _ | exact quads_len _ | exact quints_len _ | exact bools_len _ | (simp [ints_len, bools_len, pairs_len, quads_len, quints_len, part_len, *]; done) | (simp [ints_len, bools_len, pairs_len, quads_len, quints_len]; omega) | rfl) | rfl | simp [E.lend, lendC]) (hnews : ∀ r ∈ news, r.length = k ∧ r.all isSc = true := by first | exact ints_row _ | exact pairs_row _ | exact quads_row _ | exact quints_row _ | exact bools_row _ | (intro r hr; simp [chunk] at hr; subst hr; exact ⟨rfl, rfl⟩)) (hsz : news.length ≤ 9223372036854775807 ∧ news.length * bytes ≤ 140737488355328 := by (constructor <;> first | omega | (simp [ints_len, bools_len, pairs_len, quads_len, quints_len, chunk]; omega))) :
  FOp1 P N o dm e s R (fun r S => r = .c (.sl 0 0 m m) ∧ S = [.row e k news]) := by subst hm; exact F_append ho ht hty hby hz hzl hy hnews hsz
end

theorem fk_cons {K : Slots → List Res → Prop} {d : Nat} {Q : AV → List Res → Prop} {l : List (Nat × (AV → List Res → Prop))} {s : Slots} {R : List Res} (h : ∀ r S, Q r S → FreshK K l ((d, r.sh R.length) :: s) (R ++ S.map (Res.sh R.length))) : FreshK K ((d, Q) :: l) s R := h
theorem fk_nil {K : Slots → List Res → Prop} {s : Slots} {R : List Res} (h : K s R) : FreshK K [] s R := h

theorem t_fresh {P : Program} {N : Nat} {ops : Array Oper} {s s1 : Slots} {R R1 : List Res} {K : Slots → List Res → Prop} {listed : Array Bool} (f : Nat) (C : List (Chn × (AV → List Res → Prop))) (er : Slots) (ks : List Nat) {CD : List (Nat × (AV → List Res → Prop))}
  (hC : AllOk P N ops (er ++ s) R C) (h : FreshK (fun s' R' => EAnyT P N ops (er ++ s1) R1 f (markAll listed ks) s' R' K) CD (er ++ s) R)
  (her : eras C = er := by rfl) (hks : (C.flatMap fun x => x.1.nums) = ks := by rfl) (hCD : C.map (fun x => (x.1.dst, x.2)) = CD := by rfl) (hchk : chOk ops listed (C.map Prod.fst) = true := by kernel_rfl) (hap : apOk C = true := by kernel_rfl) : EAnyT P N ops s1 R1 (f + cnt C) listed s R K := by
 subst her hks hCD
 exact T_fresh f C hC h hchk hap rfl
end Go.Proofs.YthnadkagchbhbaaGreat.E

namespace Go.Proofs.YthnadkagchbhbaaGreat.E
open Go Go.RowKit
set_option linter.unusedVariables false
set_option linter.unusedSimpArgs false

structure MInv (P : Program) (N : Nat) (ops : Array Oper) (sB : Slots) (RB : List Res) (WB : Wit) (a0 : Act) (w0 : World) (L0 : Array Bool) (ed : List Nat) (l : List It) (dn : List Nat) (D : Slots) (U : List Res) (W : Wit) (listed : Array Bool) (a : Act) (w : World) : Prop where
 base : Now N sB RB a0 w0 WB
 now : Now N (D ++ sB) (RB ++ U) a w W
 ownD : ∀ p ∈ D, p.2.own = true
 ownU : U.all Res.own = true
 stab : ∀ i, i < RB.length → W.hs i = WB.hs i ∧ ∀ b, W.fs i b ↔ WB.fs i b
 fresh : ∀ i b, RB.length ≤ i → W.fs i b → w0.heap.size ≤ b
 below : Below w0.heap.size w0 w
 can : ∀ x ∈ l, ChOk P N ops sB RB x.c x.Q
 ok : ∀ x ∈ l, x.st.Ok x.c x.Q a w
 fp : ∀ x ∈ l, ∀ b, x.st.fp b → w0.heap.size ≤ b ∧ b < w.heap.size
 fpW : ∀ x ∈ l, ∀ b, x.st.fp b → ∀ i, ¬ W.fs i b
 apart : l.Pairwise Apart
 size : listed.size = L0.size
 list : ∀ k, listed.getD k false = true ↔ (L0.getD k false = true ∨ k ∈ dn ∨ ∃ x ∈ l, x.st.seen x.c k)
 closed : Closed .any ops listed
 same : ∀ t, t ∉ ed → a.tmps.getD t undef = a0.tmps.getD t undef
 any : ∀ x ∈ l, ∀ d ∈ x.c.dsts, E.get (D ++ sB) d = .any ∧ d ∈ ed
 er : ∀ t ∈ ed, E.get sB t = .any

theorem get_app (D sB : Slots) (t : Nat) : (∃ p ∈ D, p.1 = t ∧ E.get (D ++ sB) t = p.2) ∨ E.get (D ++ sB) t = E.get sB t := by
 induction D with
 | nil => exact .inr rfl
 | cons q D ih =>
  by_cases e : q.1 = t
  ·exact .inl ⟨q, List.mem_cons_self .., e, by simp [E.get, e]⟩
  ·rcases ih with ⟨p, h1, h2, h3⟩ | h
   ·exact .inl ⟨p, List.mem_cons_of_mem _ h1, h2, by simpa [E.get, e] using h3⟩
   ·exact .inr (by simpa [E.get, e] using h)

section
variable {P : Program} {N : Nat} {ops : Array Oper} {sB : Slots} {RB : List Res} {WB : Wit} {a0 : Act} {w0 : World} {L0 : Array Bool} {ed : List Nat}

/-- What was known at the start is known now. -/
theorem MInv.start {l : List It} {dn : List Nat} {D : Slots} {U : List Res} {W : Wit} {listed : Array Bool} {a : Act} {w : World} (h : MInv P N ops sB RB WB a0 w0 L0 ed l dn D U W listed a w) : Now N sB RB a w WB := by
 have hs := h.base.sep
 obtain ⟨tr, sp⟩ := hs.stay h.below.os h.below.tape h.below.output h.below.size (fun b hb _ => h.below.block b hb) (fun i b hb => h.below.block b (hs.lt i b hb))
 refine ⟨h.now.size, h.now.defers, fun t => ?_, sp⟩
 by_cases e : t ∈ ed
 ·rw [h.er t e]; exact AVR.any ..
 ·rw [h.same t e]; exact (h.base.val t).next tr

/-- A chain beside goes on. -/
theorem MInv.float {l1 l2 : List It} {x : It} {st' : St} {dn : List Nat} {D : Slots} {U : List Res} {W : Wit} {listed : Array Bool} {a : Act} {w w' : World} {i d : Nat} {v : Value}
  (h : MInv P N ops sB RB WB a0 w0 L0 ed (l1 ++ x :: l2) dn D U W listed a w) (hi : i ∈ Region.ready .any ops listed) (hil : i < listed.size) (hd : d ∈ x.c.dsts) (hN : d < N) (hb : Below w.heap.size w w')
  (hok : st'.Ok x.c x.Q (a.put (some d) v) w') (hfp : ∀ b, st'.fp b → (x.st.fp b ∨ w.heap.size ≤ b) ∧ b < w'.heap.size) (hseen : ∀ k, st'.seen x.c k ↔ (x.st.seen x.c k ∨ k = i)) :
  MInv P N ops sB RB WB a0 w0 L0 ed (l1 ++ { x with st := st' } :: l2) dn D U W (listed.setIfInBounds i true) (a.put (some d) v) w' := by
 have hmem : ∀ y, y ∈ l1 ++ { x with st := st' } :: l2 → y = { x with st := st' } ∨ (y ∈ l1 ++ l2) := fun y hy => by
  simp only [List.mem_append, List.mem_cons] at hy ⊢
  rcases hy with hy | hy | hy
  ·exact .inr (.inl hy)
  ·exact .inl hy
  ·exact .inr (.inr hy)
 have hin : ∀ y, y ∈ l1 ++ l2 → y ∈ l1 ++ x :: l2 := fun y hy => by
  simp only [List.mem_append, List.mem_cons] at hy ⊢
  rcases hy with hy | hy
  ·exact .inl hy
  ·exact .inr (.inr hy)
 have hx : x ∈ l1 ++ x :: l2 := by simp
 have hap := h.apart
 rw [List.pairwise_append, List.pairwise_cons] at hap
 have hoth : ∀ y, y ∈ l1 ++ l2 → (∀ d ∈ x.c.dsts, d ∉ y.c.dsts) ∧ ∀ b, x.st.fp b → ¬ y.st.fp b := fun y hy => by
  rcases List.mem_append.1 hy with hy | hy
  ·have := hap.2.2 y hy x (List.mem_cons_self ..)
   exact ⟨fun d hd h' => this.2.1 d h' hd, fun b hb h' => this.2.2 b h' hb⟩
  ·have := hap.2.1.1 y hy
   exact ⟨this.2.1, this.2.2⟩
 have hfx : ∀ b, x.st.fp b → w0.heap.size ≤ b := fun b hb => (h.fp x hx b hb).1
 obtain ⟨a1, a2⟩ := h.any x hx d hd
 obtain ⟨tr, sp⟩ := h.now.sep.stay hb.os hb.tape hb.output hb.size (fun b hb' _ => hb.block b hb') (fun i b hi => hb.block b (h.now.sep.lt i b hi))
 refine ⟨h.base, ?_, h.ownD, h.ownU, h.stab, h.fresh, h.below.trans (hb.mono h.below.size), fun y hy => ?_, fun y hy => ?_, fun y hy b hb' => ?_, fun y hy b hb' i hi' => ?_, ?_, by simp [h.size], fun k => ?_, h.closed.step hi, fun t ht => ?_, fun y hy => ?_, h.er⟩
 ·refine ((h.now.next tr sp).put hN (y := .any) (AVR.any ..)).sub fun t => ?_
  by_cases e : d = t
  ·subst e; exact .inl a1
  ·exact .inr (by simp [E.get, e])
 ·rcases hmem y hy with rfl | hy
  ·exact h.can x hx
  ·exact h.can y (hin y hy)
 ·rcases hmem y hy with rfl | hy'
  ·exact hok
  ·have h0 := h.ok y (hin y hy')
   obtain ⟨g1, g2⟩ := hoth y hy'
   have hne : ∀ t, t ∈ y.c.dsts → d ≠ t := fun t ht' e => g1 d hd (e ▸ ht')
   have hst : ∀ b, y.st.fp b → w'.heap[b]? = w.heap[b]? := fun b hb' => hb.block b (h.fp y (hin y hy') b hb').2
   cases hs : y.st with
   | no => trivial
   | mid g =>
    rw [hs] at h0 hst
    obtain ⟨⟨j, t, e1, e2⟩, e3⟩ := h0
    exact ⟨⟨j, t, e1, by rw [put_getD (hne t (by simp [Chn.dsts, e1]))]; exact e2⟩, by rw [hst g rfl]; exact e3⟩
   | done r S V u =>
    rw [hs] at h0 hst
    obtain ⟨e1, e2, e3, e4, e5, e6⟩ := h0
    exact ⟨e1, e2, e3, e4.anyw e2, e5.anyw e3 hb.size (fun j b hj => hst b ⟨j, hj⟩), by rw [put_getD (hne y.c.dst (dst_mem _))]; exact e6⟩
 ·rcases hmem y hy with rfl | hy'
  ·obtain ⟨h1, h2⟩ := hfp b hb'
   exact ⟨by rcases h1 with h1 | h1; exact hfx b h1; exact Nat.le_trans h.below.size h1, h2⟩
  ·have := h.fp y (hin y hy') b hb'
   exact ⟨this.1, Nat.lt_of_lt_of_le this.2 hb.size⟩
 ·rcases hmem y hy with rfl | hy'
  ·rcases (hfp b hb').1 with h1 | h1
   ·exact h.fpW x hx b h1 i hi'
   ·exact absurd (h.now.sep.lt i b hi') (by omega)
  ·exact h.fpW y (hin y hy') b hb' i hi'
 ·have hnew : ∀ y, y ∈ l1 ++ l2 → ∀ b, st'.fp b → ¬ y.st.fp b := fun y hy b h1 h2 => by
   rcases (hfp b h1).1 with h3 | h3
   ·exact (hoth y hy).2 b h3 h2
   ·exact absurd (h.fp y (hin y hy) b h2).2 (by omega)
  rw [List.pairwise_append, List.pairwise_cons]
  refine ⟨hap.1, ⟨fun y hy => ?_, hap.2.1.2⟩, fun y hy z hz' => ?_⟩
  ·have := hap.2.1.1 y hy
   exact ⟨this.1, this.2.1, hnew y (by simp [hy])⟩
  ·rcases List.mem_cons.1 hz' with rfl | hz'
   ·have := hap.2.2 y hy x (List.mem_cons_self ..)
    exact ⟨this.1, this.2.1, fun b h1 h2 => hnew y (by simp [hy]) b h2 h1⟩
   ·exact hap.2.2 y hy z (List.mem_cons_of_mem _ hz')
 ·rw [getD_set hil, h.list k]
  constructor
  ·rintro (rfl | h1 | h1 | ⟨y, hy, h1⟩)
   ·exact .inr (.inr ⟨{ x with st := st' }, by simp, (hseen _).2 (.inr rfl)⟩)
   ·exact .inl h1
   ·exact .inr (.inl h1)
   ·simp only [List.mem_append, List.mem_cons] at hy
    rcases hy with hy | rfl | hy
    ·exact .inr (.inr ⟨y, by simp [hy], h1⟩)
    ·exact .inr (.inr ⟨{ y with st := st' }, by simp, (hseen _).2 (.inl h1)⟩)
    ·exact .inr (.inr ⟨y, by simp [hy], h1⟩)
  ·rintro (h1 | h1 | ⟨y, hy, h1⟩)
   ·exact .inr (.inl h1)
   ·exact .inr (.inr (.inl h1))
   ·rcases hmem y hy with rfl | hy'
    ·rcases (hseen _).1 h1 with h1 | h1
     ·exact .inr (.inr (.inr ⟨x, hx, h1⟩))
     ·exact .inl h1
    ·exact .inr (.inr (.inr ⟨y, hin y hy', h1⟩))
 ·have hne : d ≠ t := fun e => ht (e ▸ a2)
  rw [put_getD hne]; exact h.same t ht
 ·rcases hmem y hy with rfl | hy'
  ·exact h.any x hx
  ·exact h.any y (hin y hy')

/-- One's own goes on by a value that hangs on nothing. -/
theorem MInv.pure {l : List It} {dn : List Nat} {D : Slots} {U : List Res} {W : Wit} {listed : Array Bool} {a : Act} {w : World} {i d : Nat} {v : Value} {y : AV}
  (h : MInv P N ops sB RB WB a0 w0 L0 ed l dn D U W listed a w) (hi : i ∈ Region.ready .any ops listed) (hil : i < listed.size) (hN : d < N) (hy : AVR W (RB ++ U) w y v) (ho : y.own = true) (hd : ∀ x ∈ l, d ∉ x.c.dsts) (hsB : d ∈ ed) :
  MInv P N ops sB RB WB a0 w0 L0 ed l (i :: dn) ((d, y) :: D) U W (listed.setIfInBounds i true) (a.put (some d) v) w := by
 refine ⟨h.base, h.now.put hN hy, fun p hp => ?_, h.ownU, h.stab, h.fresh, h.below, h.can, fun x hx => ?_, h.fp, h.fpW, h.apart, by simp [h.size], fun k => ?_, h.closed.step hi, fun t ht => ?_, fun x hx t ht => ?_, h.er⟩
 ·rcases List.mem_cons.1 hp with rfl | hp
  ·exact ho
  ·exact h.ownD p hp
 ·have h0 := h.ok x hx
  have hne : ∀ t, t ∈ x.c.dsts → d ≠ t := fun t ht' e => hd x hx (e ▸ ht')
  cases hs : x.st with
  | no => trivial
  | mid g =>
   rw [hs] at h0
   obtain ⟨⟨j, t, e1, e2⟩, e3⟩ := h0
   exact ⟨⟨j, t, e1, by rw [put_getD (hne t (by simp [Chn.dsts, e1]))]; exact e2⟩, e3⟩
  | done r S V u =>
   rw [hs] at h0
   obtain ⟨e1, e2, e3, e4, e5, e6⟩ := h0
   exact ⟨e1, e2, e3, e4, e5, by rw [put_getD (hne x.c.dst (dst_mem _))]; exact e6⟩
 ·rw [getD_set hil, h.list k, List.mem_cons]
  constructor
  ·rintro (h1 | h1 | h1 | h1)
   ·exact .inr (.inl (.inl h1))
   ·exact .inl h1
   ·exact .inr (.inl (.inr h1))
   ·exact .inr (.inr h1)
  ·rintro (h1 | (h1 | h1) | h1)
   ·exact .inr (.inl h1)
   ·exact .inl h1
   ·exact .inr (.inr (.inl h1))
   ·exact .inr (.inr (.inr h1))
 ·have hne : d ≠ t := fun e => ht (e ▸ hsB)
  rw [put_getD hne]; exact h.same t ht
 ·have hne : d ≠ t := fun e => hd x hx (e ▸ ht)
  simp only [List.cons_append, E.get, hne, if_false]
  exact h.any x hx t ht

/-- One's own goes on by a call. -/
theorem MInv.call {l : List It} {dn : List Nat} {D : Slots} {U : List Res} {W V : Wit} {S : List Res} {listed : Array Bool} {a : Act} {w w' : World} {i d : Nat} {v : Value} {r : AV}
  (h : MInv P N ops sB RB WB a0 w0 L0 ed l dn D U W listed a w) (hi : i ∈ Region.ready .any ops listed) (hil : i < listed.size) (hN : d < N) (hb : Below w.heap.size w w') (hr : r.own = true) (hS : S.all Res.own = true) (hv : AVR V S w' r v) (hsp : Sep w' V S) (hn : ∀ i b, V.fs i b → w.heap.size ≤ b)
  (hd : ∀ x ∈ l, d ∉ x.c.dsts) (hsB : d ∈ ed) :
  MInv P N ops sB RB WB a0 w0 L0 ed l (i :: dn) ((d, r.sh (RB ++ U).length) :: D) (U ++ S.map (Res.sh (RB ++ U).length)) (Wit.join (RB ++ U).length W V) (listed.setIfInBounds i true) (a.put (some d) v) w' := by
 obtain ⟨tr, sp⟩ := h.now.sep.frame hb hsp hS hn
 have hl : RB.length ≤ (RB ++ U).length := by simp
 refine ⟨h.base, ?_, fun p hp => ?_, by rw [List.all_append, h.ownU, res_shs_own, hS]; rfl, fun j hj => ?_, fun j b hj hf => ?_, h.below.trans (hb.mono h.below.size), h.can, fun x hx => ?_, fun x hx b hb' => ?_, fun x hx b hb' j hj => ?_, h.apart, by simp [h.size], fun k => ?_, h.closed.step hi, fun t ht => ?_, fun x hx t ht => ?_, h.er⟩
 ·rw [← List.append_assoc]
  exact (h.now.next tr sp).put hN (hv.sh hr)
 ·rcases List.mem_cons.1 hp with rfl | hp
  ·rw [av_sh_own]; exact hr
  ·exact h.ownD p hp
 ·have : j < (RB ++ U).length := by omega
  simp only [Wit.join, this, if_true]
  exact h.stab j hj
 ·simp only [Wit.join] at hf
  split at hf
  ·exact h.fresh j b hj hf
  ·exact Nat.le_trans h.below.size (hn _ b hf)
 ·have h0 := h.ok x hx
  have hne : ∀ t, t ∈ x.c.dsts → d ≠ t := fun t ht' e => hd x hx (e ▸ ht')
  have hst : ∀ b, x.st.fp b → w'.heap[b]? = w.heap[b]? := fun b hb' => hb.block b (h.fp x hx b hb').2
  cases hs : x.st with
  | no => trivial
  | mid g =>
   rw [hs] at h0 hst
   obtain ⟨⟨j, t, e1, e2⟩, e3⟩ := h0
   exact ⟨⟨j, t, e1, by rw [put_getD (hne t (by simp [Chn.dsts, e1]))]; exact e2⟩, by rw [hst g rfl]; exact e3⟩
  | done r S V u =>
   rw [hs] at h0 hst
   obtain ⟨e1, e2, e3, e4, e5, e6⟩ := h0
   exact ⟨e1, e2, e3, e4.anyw e2, e5.anyw e3 hb.size (fun j b hj => hst b ⟨j, hj⟩), by rw [put_getD (hne x.c.dst (dst_mem _))]; exact e6⟩
 ·have := h.fp x hx b hb'
  exact ⟨this.1, Nat.lt_of_lt_of_le this.2 hb.size⟩
 ·simp only [Wit.join] at hj
  split at hj
  ·exact h.fpW x hx b hb' _ hj
  ·exact absurd (h.fp x hx b hb').2 (by have := hn _ b hj; omega)
 ·rw [getD_set hil, h.list k, List.mem_cons]
  constructor
  ·rintro (h1 | h1 | h1 | h1)
   ·exact .inr (.inl (.inl h1))
   ·exact .inl h1
   ·exact .inr (.inl (.inr h1))
   ·exact .inr (.inr h1)
  ·rintro (h1 | (h1 | h1) | h1)
   ·exact .inr (.inl h1)
   ·exact .inl h1
   ·exact .inr (.inr (.inl h1))
   ·exact .inr (.inr (.inr h1))
 ·have hne : d ≠ t := fun e => ht (e ▸ hsB)
  rw [put_getD hne]; exact h.same t ht
 ·have hne : d ≠ t := fun e => hd x hx (e ▸ ht)
  simp only [List.cons_append, E.get, hne, if_false]
  exact h.any x hx t ht
end
end Go.Proofs.YthnadkagchbhbaaGreat.E

namespace Go.Proofs.YthnadkagchbhbaaGreat.E
open Go Go.RowKit
set_option linter.unusedVariables false
set_option linter.unusedSimpArgs false

inductive MRun (P : Program) (N : Nat) (ops : Array Oper) (md : List Nat) (KF : Slots → List Res → Prop) : List (Nat × Bool) → Slots → List Res → Prop
 | done {s : Slots} {R : List Res} : KF s R → MRun P N ops md KF [] s R
 | pure {i d : Nat} {o : Oper} {y : AV} {ms : List (Nat × Bool)} {s : Slots} {R : List Res} : ops[i]? = some o → want ops o s = some true → o.dst = some d → d < N → d ∈ md → Pure P o s R y → y.own = true → MRun P N ops md KF ms ((d, y) :: s) R → MRun P N ops md KF ((i, true) :: ms) s R
 | call {i d : Nat} {o : Oper} {Q : AV → List Res → Prop} {ms : List (Nat × Bool)} {s : Slots} {R : List Res} : ops[i]? = some o → want ops o s = some true → o.dst = some d → d < N → d ∈ md → FOp P N o s R Q →
   (∀ r S, Q r S → MRun P N ops md KF ms ((d, r.sh R.length) :: s) (R ++ S.map (Res.sh R.length))) → MRun P N ops md KF ((i, false) :: ms) s R

def mDep1 (ops : Array Oper) (L0 : Array Bool) (prev : List (Nat × Bool)) (m : Nat × Bool) : Bool :=
 (((afters ops m.1).all fun k => L0.getD k false || prev.any fun p => p.1 == k) && ((!prev.any fun p => p.1 == m.1) && prev.all fun p => p.2 || (befores .any ops (m.1 + 1) [m.1]).contains p.1)) && (!m.2 || Region.free .any ops (markAll L0 (prev.map Prod.fst)) m.1)
def mDeps (ops : Array Oper) (L0 : Array Bool) : List (Nat × Bool) → List (Nat × Bool) → Bool
 | _, [] => true
 | prev, m :: ms => mDep1 ops L0 prev m && mDeps ops L0 (prev ++ [m]) ms
def mOne (ops : Array Oper) (L0 : Array Bool) (C : List Chn) (m : Nat × Bool) : Bool :=
 (decide (m.1 < ops.size) && (decide (m.1 < L0.size) && !L0.getD m.1 false)) && (C.all fun c => !c.nums.contains m.1)
def mChk (ops : Array Oper) (L0 : Array Bool) (ms : List (Nat × Bool)) (C : List Chn) : Bool :=
 (Region.noSelect ops && (ms.all (mOne ops L0 C) && mDeps ops L0 [] ms)) && ((C.all (chOk1 ops L0) && chAll ops L0 [] C) &&
 (List.range ops.size).all fun k => L0.getD k false || ((ms.any fun m => m.1 == k) || ((C.any fun c => c.nums.contains k) || ((C.all fun c => (befores .any ops (k + 1) [k]).contains c.num) && ms.all fun m => m.2 || (befores .any ops (k + 1) [k]).contains m.1))))

theorem mDeps_at {ops : Array Oper} {L0 : Array Bool} : ∀ (pre prev : List (Nat × Bool)) (m : Nat × Bool) (post : List (Nat × Bool)), mDeps ops L0 prev (pre ++ m :: post) = true → mDep1 ops L0 (prev ++ pre) m = true
 | [], prev, m, post, h => by simp only [List.nil_append, mDeps, Bool.and_eq_true] at h; simpa using h.1
 | q :: pre, prev, m, post, h => by
  simp only [List.cons_append, mDeps, Bool.and_eq_true] at h
  have := mDeps_at pre _ m post h.2
  simpa using this

section
variable {P : Program} {N : Nat} {ops : Array Oper} {sB : Slots} {RB : List Res} {WB : Wit} {a0 : Act} {w0 : World} {L0 : Array Bool} {ed : List Nat}

theorem seen_num {x : It} {k : Nat} (h : x.st.seen x.c k) : k ∈ x.c.nums := by
 cases hs : x.st with
 | no => rw [hs] at h; exact h.elim
 | mid g => rw [hs] at h; obtain ⟨d, e⟩ := h; simp [Chn.nums, e]
 | done r S V v => rw [hs] at h; exact h

theorem MInv.unseen {l : List It} {dn : List Nat} {D : Slots} {U : List Res} {W : Wit} {listed : Array Bool} {a : Act} {w : World} (h : MInv P N ops sB RB WB a0 w0 L0 ed l dn D U W listed a w) {x : It} (hx : x ∈ l) {k : Nat} (hk : k ∈ x.c.nums) (h0 : L0.getD k false = false) (hdn : k ∉ dn) (hns : ¬ x.st.seen x.c k) : listed.getD k false = false := by
 rw [Bool.eq_false_iff]
 intro hl
 rcases (h.list k).1 hl with h3 | h3 | ⟨y, hy, h3⟩
 ·rw [h0] at h3; cases h3
 ·exact hdn h3
 ·have hky := seen_num h3
  by_cases e : y = x
  ·subst e; exact hns h3
  ·have hp := h.apart
   have : Apart x y ∨ Apart y x := by
    rw [List.pairwise_iff_getElem] at hp
    obtain ⟨i, hi, rfl⟩ := List.mem_iff_getElem.1 hx
    obtain ⟨j, hj, rfl⟩ := List.mem_iff_getElem.1 hy
    rcases Nat.lt_trichotomy i j with h' | h' | h'
    ·exact .inl (hp i j hi hj h')
    ·subst h'; exact absurd rfl e
    ·exact .inr (hp j i hj hi h')
   rcases this with h' | h'
   ·exact h'.1 k hk hky
   ·exact h'.1 k hky hk

theorem MInv.next {l1 l2 : List It} {x : It} {dn : List Nat} {D : Slots} {U : List Res} {W : Wit} {listed : Array Bool} {a : Act} {w : World} (h : MInv P N ops sB RB WB a0 w0 L0 ed (l1 ++ x :: l2) dn D U W listed a w) (hc : chOk1 ops L0 x.c = true) (hd : chD ops L0 ((l1.map It.c).flatMap Chn.nums) x.c = true)
  (ho : ∀ y ∈ l1, y.over) (hn : ¬ x.over) (hdn : ∀ k ∈ x.c.nums, k ∉ dn) : ∃ i, i ∈ Region.ready .any ops listed := by
 have hx : x ∈ l1 ++ x :: l2 := by simp
 simp only [chOk1, Bool.and_eq_true, List.all_eq_true, decide_eq_true_eq, Bool.not_eq_true'] at hc
 obtain ⟨h1, h2⟩ := hc
 have un : ∀ k ∈ x.c.nums, ¬ x.st.seen x.c k → listed.getD k false = false := fun k hk hns => h.unseen hx hk (h1 k hk).2.2 (hdn k hk) hns
 have hL : ∀ k, (L0.getD k false || ((l1.map It.c).flatMap Chn.nums).contains k) = true → listed.getD k false = true := fun k hk => by
  rw [Bool.or_eq_true] at hk
  rcases hk with hk | hk
  ·exact (h.list k).2 (.inl hk)
  ·rw [List.contains_iff_mem] at hk
   obtain ⟨c, hc, hk⟩ := List.mem_flatMap.1 hk
   obtain ⟨y, hy, rfl⟩ := List.mem_map.1 hc
   obtain ⟨r, S, V, v, e⟩ := ho y hy
   exact (h.list k).2 (.inr (.inr ⟨y, by simp [hy], by rw [e]; exact hk⟩))
 unfold chD at hd
 cases hm : x.c.mid with
 | none =>
  rw [hm] at hd
  simp only [List.all_eq_true] at hd
  cases hs : x.st with
  | no =>
   have hk := num_mem x.c
   exact ⟨x.c.num, ready_iff.2 ⟨⟨by rw [h.size]; exact (h1 _ hk).2.1, un _ hk (by rw [hs]; exact fun h => h)⟩, (h1 _ hk).1, fun k hk' => hL k (hd k hk')⟩⟩
  | mid g =>
   have := h.ok x hx
   rw [hs] at this
   obtain ⟨⟨i, d, e, _⟩, _⟩ := this
   rw [hm] at e; cases e
  | done r S V v => exact absurd ⟨r, S, V, v, hs⟩ hn
 | some m =>
  rw [hm] at hd h2
  simp only [Bool.and_eq_true, List.all_eq_true, bne_iff_ne] at hd h2
  obtain ⟨h4, h6⟩ := hd
  have h3 := h2.1
  have hk := num_mem x.c
  have hk0 : m.1 ∈ x.c.nums := by simp [Chn.nums, hm]
  cases hs : x.st with
  | no => exact ⟨m.1, ready_iff.2 ⟨⟨by rw [h.size]; exact (h1 _ hk0).2.1, un _ hk0 (by rw [hs]; exact fun h => h)⟩, (h1 _ hk0).1, fun k hk' => hL k (h4 k hk')⟩⟩
  | mid g =>
   refine ⟨x.c.num, ready_iff.2 ⟨⟨by rw [h.size]; exact (h1 _ hk).2.1, un _ hk (by rw [hs]; rintro ⟨d, e⟩; rw [hm] at e; cases e; exact h3 rfl)⟩, (h1 _ hk).1, fun k hk' => ?_⟩⟩
   have h7 := h6 k hk'
   rw [Bool.or_eq_true, beq_iff_eq] at h7
   rcases h7 with rfl | h7
   ·exact (h.list _).2 (.inr (.inr ⟨x, hx, by rw [hs]; exact ⟨m.2, hm⟩⟩))
   ·exact hL k h7
  | done r S V v => exact absurd ⟨r, S, V, v, hs⟩ hn

/-- A chain's operation comes up. -/
theorem float_wp {G : Act → World → Prop} {fuel n : Nat} {Sx : World → Prop} {C : List Chn} (hc1 : ∀ c ∈ C, chOk1 ops L0 c = true) {l : List It} {dn : List Nat} {D : Slots} {U : List Res} {W : Wit} {listed : Array Bool} {a : Act} {w : World} (h : MInv P N ops sB RB WB a0 w0 L0 ed l dn D U W listed a w)
  (hS : ∀ w, Below w0.heap.size w0 w → Sx w) (hlC : ∀ x ∈ l, x.c ∈ C) {i : Nat} (hi : i ∈ Region.ready .any ops listed) {x : It} (hx : x ∈ l) (hix : i ∈ x.c.nums) (hdn : ∀ k ∈ x.c.nums, k ∉ dn) (hn : todo l = n + 1)
  (ih : ∀ (l' : List It) (d : Nat) (v : Value) (w' : World), l'.map (fun x : It => (x.c, x.Q)) = l.map (fun x : It => (x.c, x.Q)) → todo l' = n → MInv P N ops sB RB WB a0 w0 L0 ed l' dn D U W (listed.setIfInBounds i true) (a.put (some d) v) w' → wpAnyJ P .any ops (fun ex a' w' => ex = .normal ∧ G a' w') fuel Sx (listed.setIfInBounds i true) (a.put (some d) v) w') :
  wpOp P ops (fun ex a' w' => ex = .normal ∧ G a' w') i (fun a' w' => (Sx w' ∧ wpAnyJ P .any ops (fun ex a' w' => ex = .normal ∧ G a' w') fuel Sx (listed.setIfInBounds i true) a' w') ∨ (Dom .any ops i ∧ ∃ S' : World → Prop, S' w' ∧ wpAnyJ P .any ops (fun ex a' w' => ex = .normal ∧ G a' w') fuel S' (listed.setIfInBounds i true) a' w')) a w := by
 have hr := ready_iff.1 hi
 have hil : i < listed.size := hr.1.1
 have hnl := hr.1.2
 have hnd : ¬ x.over := fun ⟨r, S, V, v, e⟩ => by
  have := (h.list i).2 (.inr (.inr ⟨x, hx, by rw [e]; exact hix⟩))
  rw [hnl] at this; cases this
 have hok := h.ok x hx
 have hcan := h.can x hx
 have hnow := h.start
 have hcm := hc1 _ (hlC x hx)
 obtain ⟨c, Qc, st⟩ := x
 obtain ⟨l1, l2, rfl⟩ := List.append_of_mem hx
 rw [todo_split] at hn
 have hgo : ∀ (st' : St), todo (l1 ++ ⟨c, Qc, st'⟩ :: l2) = n → ∀ (d : Nat) (v : Value) (w' : World), MInv P N ops sB RB WB a0 w0 L0 ed (l1 ++ ⟨c, Qc, st'⟩ :: l2) dn D U W (listed.setIfInBounds i true) (a.put (some d) v) w' →
   wpAnyJ P .any ops (fun ex a' w' => ex = .normal ∧ G a' w') fuel Sx (listed.setIfInBounds i true) (a.put (some d) v) w' := fun st' h1 d v w' h2 => ih _ d v w' (by simp) h1 h2
 unfold wpOp
 cases hcan with
 | @one j d e o _ h1 h2 h3 h4 h5 =>
  have hij : i = j := by simpa [Chn.nums] using hix
  subst hij
  cases st with
  | mid g => obtain ⟨⟨_, _, e', _⟩, _⟩ := hok; cases e'
  | done r S V v => exact absurd ⟨r, S, V, v, rfl⟩ hnd
  | no =>
   simp only [h1, want_real hnow h2, if_true]
   refine .inl (Oper.wp_mono (fun a' w' hh => ?_) (h5 _ a w WB hnow))
   obtain ⟨hb, r, S, V, v, k1, k2, k3, rfl, k4, k5, k6⟩ := hh
   rw [h3]
   refine .inl ⟨hS _ (h.below.trans (hb.mono h.below.size)), hgo (.done r S V v) (by rw [todo_split]; simp [St.left, Chn.nums] at hn ⊢; omega) d v w' ?_⟩
   refine h.float (x := ⟨_, Qc, .no⟩) (st' := .done r S V v) hi hil (by simp [Chn.dsts]) h4 hb ⟨k1, k2, k3, k4, k5, put_getD_self h4 h.now.size⟩ (fun b hb' => ?_) (fun k => ?_)
   ·obtain ⟨q, hq⟩ := hb'
    exact ⟨.inr (k6 q b hq), k5.lt q b hq⟩
   ·simp [St.seen, Chn.nums]
 | @two im dm j d e o om _ h1 h2 h3 h4 h5 h6 h7 h8 h9 h10 =>
  simp only [chOk1, Bool.and_eq_true, List.all_eq_true, bne_iff_ne, Bool.or_eq_true, beq_iff_eq, List.contains_iff_mem] at hcm
  obtain ⟨hcm1, hne, hcm3⟩ := hcm
  cases st with
  | done r S V v => exact absurd ⟨r, S, V, v, rfl⟩ hnd
  | no =>
   have hii : i = im := by
    have : i = im ∨ i = j := by simpa [Chn.nums] using hix
    rcases this with h' | h'
    ·exact h'
    ·subst h'
     have := hr.2.2 im hcm3
     have hz := hcm1 im (by simp [Chn.nums])
     simp only [decide_eq_true_eq, Bool.not_eq_true'] at hz
     rw [h.unseen hx (k := im) (by simp [Chn.nums]) hz.2.2 (hdn im (by simp [Chn.nums])) (fun h => h)] at this
     cases this
   subst hii
   simp only [h1, want_real hnow h2, if_true]
   refine .inl (Oper.wp_mono (fun a' w' hh => ?_) (h5 _ a w))
   obtain ⟨rfl, rfl⟩ := hh
   rw [h3]
   have hb : Below w.heap.size w (w.alloc (.cells #[] e)) := ⟨rfl, rfl, rfl, by simp, fun b hb' => heap_alloc_lt w _ b hb'⟩
   refine .inl ⟨hS _ (h.below.trans (hb.mono h.below.size)), hgo (.mid w.heap.size) (by rw [todo_split]; simp [St.left, Chn.nums] at hn ⊢; omega) dm _ _ ?_⟩
   refine h.float (x := ⟨_, Qc, .no⟩) (st' := .mid w.heap.size) hi hil (by simp [Chn.dsts]) h4 hb ⟨⟨i, dm, rfl, put_getD_self h4 h.now.size⟩, heap_alloc_self ..⟩ (fun b hb' => ?_) (fun k => ?_)
   ·have : b = w.heap.size := hb'
    subst this
    exact ⟨.inr (Nat.le_refl _), by simp⟩
   ·simp [St.seen, eq_comm]
  | mid g =>
   have hii : i = j := by
    have : i = im ∨ i = j := by simpa [Chn.nums] using hix
    rcases this with h' | h'
    ·subst h'
     have := (h.list i).2 (.inr (.inr ⟨_, hx, ⟨dm, rfl⟩⟩))
     rw [hnl] at this; cases this
    ·exact h'
   subst hii
   obtain ⟨⟨i', d', e1, e2⟩, e3⟩ := hok
   obtain ⟨rfl, rfl⟩ : im = i' ∧ dm = d' := by cases e1; exact ⟨rfl, rfl⟩
   simp only [h6, want_real hnow h7, if_true]
   refine .inl (Oper.wp_mono (fun a' w' hh => ?_) (h10 _ a w WB g hnow e2 e3))
   obtain ⟨hb, r, S, V, v, k1, k2, k3, rfl, k4, k5, k6⟩ := hh
   rw [h8]
   refine .inl ⟨hS _ (h.below.trans (hb.mono h.below.size)), hgo (.done r S V v) (by rw [todo_split]; simp [St.left] at hn ⊢; omega) d v w' ?_⟩
   refine h.float (x := ⟨_, Qc, .mid g⟩) (st' := .done r S V v) hi hil (by simp [Chn.dsts]) h9 hb ⟨k1, k2, k3, k4, k5, put_getD_self h9 h.now.size⟩ (fun b hb' => ?_) (fun k => ?_)
   ·obtain ⟨q, hq⟩ := hb'
    exact ⟨k6 q b hq, k5.lt q b hq⟩
   ·simp [St.seen, Chn.nums, eq_comm]

theorem main_wp {G : Act → World → Prop} {f : Nat} {Sx : World → Prop} {CQ : List (Chn × (AV → List Res → Prop))} {ms : List (Nat × Bool)} {md : List Nat} {KF : Slots → List Res → Prop} (hS : ∀ w, Below w0.heap.size w0 w → Sx w) (hchk : mChk ops L0 ms (CQ.map Prod.fst) = true)
  (hmd : ∀ d ∈ md, d ∈ ed ∧ ∀ x ∈ CQ, d ∉ x.1.dsts)
  (hdone : ∀ l D U W listed a w, l.map (fun x : It => (x.c, x.Q)) = CQ → (∀ x ∈ l, x.over) → MInv P N ops sB RB WB a0 w0 L0 ed l (ms.map Prod.fst).reverse D U W listed a w → KF (D ++ sB) (RB ++ U) → wpAnyJ P .any ops (fun ex a' w' => ex = .normal ∧ G a' w') f Sx listed a w) :
  ∀ (n : Nat) (pre is : List (Nat × Bool)) (l : List It) (D : Slots) (U : List Res) (W : Wit) (listed : Array Bool) (a : Act) (w : World), ms = pre ++ is → n = is.length + todo l → l.map (fun x : It => (x.c, x.Q)) = CQ → MInv P N ops sB RB WB a0 w0 L0 ed l (pre.map Prod.fst).reverse D U W listed a w →
   MRun P N ops md KF is (D ++ sB) (RB ++ U) → wpAnyJ P .any ops (fun ex a' w' => ex = .normal ∧ G a' w') (f + n) Sx listed a w := by
 intro n
 induction n with
 | zero =>
  intro pre is l D U W listed a w hms hn hl h hrun
  have his : is = [] := List.eq_nil_of_length_eq_zero (by omega)
  subst his
  rw [List.append_nil] at hms
  subst hms
  cases hrun with
  | done hk =>
   refine hdone l D U W listed a w hl (fun x hx => ?_) h hk
   obtain ⟨l1, l2, rfl⟩ := List.append_of_mem hx
   rw [todo_split] at hn
   exact over_of_left (by omega)
 | succ n ih =>
  intro pre is l D U W listed a w hms hn hl h hrun
  have hC : CQ.map Prod.fst = l.map It.c := by rw [← hl, List.map_map]; rfl
  have hchk' := hchk
  rw [hC] at hchk
  simp only [mChk, Bool.and_eq_true, List.all_eq_true] at hchk
  obtain ⟨⟨c0, c1, c2⟩, ⟨c3, c4⟩, c5⟩ := hchk
  have hm1 : ∀ m ∈ ms, (m.1 < ops.size ∧ m.1 < L0.size ∧ L0.getD m.1 false = false) ∧ (∀ x ∈ l, m.1 ∉ x.c.nums) := fun m hm => by
   have := c1 m hm
   simp only [mOne, Bool.and_eq_true, decide_eq_true_eq, Bool.not_eq_true', List.all_eq_true, List.mem_map, Bool.or_eq_true] at this
   obtain ⟨h1, h2⟩ := this
   refine ⟨h1, fun x hx hk => ?_⟩
   have := h2 x.c ⟨x, hx, rfl⟩; simp at this; exact this hk
  have hdn : ∀ k, k ∈ (pre.map Prod.fst).reverse ↔ ∃ p ∈ pre, p.1 = k := fun k => by simp
  have hpm : ∀ p ∈ pre, p ∈ ms := fun p hp => by rw [hms]; simp [hp]
  have hxdn : ∀ x ∈ l, ∀ k ∈ x.c.nums, k ∉ (pre.map Prod.fst).reverse := fun x hx k hk hk' => by
   obtain ⟨p, hp, rfl⟩ := (hdn k).1 hk'
   exact (hm1 p (hpm p hp)).2 x hx hk
  -- what the next of one's own is
  have hdep : ∀ m is', is = m :: is' → m.1 ∈ Region.ready .any ops listed ∧ mDep1 ops L0 pre m = true := fun m is' e => by
   subst e
   have hd := mDeps_at pre [] m is' (by rw [← hms]; exact c2)
   rw [List.nil_append] at hd
   have hmm : m ∈ ms := by rw [hms]; simp
   obtain ⟨⟨g1, g2, g3⟩, g4⟩ := hm1 m hmm
   have hd' := hd
   simp only [mDep1, Bool.and_eq_true, List.all_eq_true, Bool.or_eq_true, List.any_eq_true, beq_iff_eq, Bool.not_eq_true'] at hd'
   obtain ⟨⟨d1, d2, d3⟩, _⟩ := hd'
   refine ⟨ready_iff.2 ⟨⟨by rw [h.size]; exact g2, ?_⟩, g1, fun k hk => ?_⟩, hd⟩
   ·rw [Bool.eq_false_iff]
    intro hl'
    rcases (h.list m.1).1 hl' with h3 | h3 | ⟨y, hy, h3⟩
    ·rw [g3] at h3; cases h3
    ·obtain ⟨p, hp, e⟩ := (hdn _).1 h3
     rw [List.any_eq_false] at d2
     exact d2 p hp (by simp [e])
    ·exact g4 y hy (seen_num h3)
   ·rcases d1 k hk with h3 | ⟨p, hp, e⟩
    ·exact (h.list k).2 (.inl h3)
    ·exact (h.list k).2 (.inr (.inl ((hdn k).2 ⟨p, hp, e⟩)))
  have hlC : ∀ x ∈ l, x.c ∈ l.map It.c := fun x hx => List.mem_map_of_mem hx
  -- whoever comes up, unless one's own next is a value alone
  have heavy : (∀ m is', is = m :: is' → m.2 = false) → (∀ m is', is = m :: is' → ∀ (j : Nat), j = m.1 → wpOp P ops (fun ex a' w' => ex = .normal ∧ G a' w') j (fun a' w' => (Sx w' ∧ wpAnyJ P .any ops (fun ex a' w' => ex = .normal ∧ G a' w') (f + n) Sx (listed.setIfInBounds j true) a' w') ∨ (Dom .any ops j ∧ ∃ S' : World → Prop, S' w' ∧ wpAnyJ P .any ops (fun ex a' w' => ex = .normal ∧ G a' w') (f + n) S' (listed.setIfInBounds j true) a' w')) a w) →
    wpAnyJ P .any ops (fun ex a' w' => ex = .normal ∧ G a' w') (f + n + 1) Sx listed a w := fun hhv hown => by
   have hfl : ∀ j ∈ Region.ready .any ops listed, ∀ x ∈ l, j ∈ x.c.nums → wpOp P ops (fun ex a' w' => ex = .normal ∧ G a' w') j (fun a' w' => (Sx w' ∧ wpAnyJ P .any ops (fun ex a' w' => ex = .normal ∧ G a' w') (f + n) Sx (listed.setIfInBounds j true) a' w') ∨ (Dom .any ops j ∧ ∃ S' : World → Prop, S' w' ∧ wpAnyJ P .any ops (fun ex a' w' => ex = .normal ∧ G a' w') (f + n) S' (listed.setIfInBounds j true) a' w')) a w := fun j hj x hx hjx => by
    have hnov : ¬ x.over := fun ⟨r, S, V, v, e⟩ => by
     have := (h.list j).2 (.inr (.inr ⟨x, hx, by rw [e]; exact hjx⟩))
     rw [(ready_iff.1 hj).1.2] at this; cases this
    have hpos : 0 < todo l := by
     obtain ⟨l1, l2, rfl⟩ := List.append_of_mem hx
     rw [todo_split]
     rcases Nat.eq_zero_or_pos (x.st.left x.c) with h0 | h0
     ·exact absurd (over_of_left h0) hnov
     ·omega
    refine float_wp (C := l.map It.c) (n := todo l - 1) c3 h hS hlC hj hx hjx (hxdn x hx) (by omega) (fun l' d v w' h1 h2 h3 => ?_)
    exact ih pre is l' D U W _ _ w' hms (by omega) (h1.trans hl) h3 hrun
   refine ⟨fun h0 => ?_, fun j hj => ?_⟩
   ·exfalso
    cases his : is with
    | cons m is' =>
     have := (hdep m is' his).1
     rw [h0] at this; cases this
    | nil =>
     rw [his] at hn
     have hex : ∃ x ∈ l, ¬ x.over := Classical.byContradiction fun hno => by
      have hz : ∀ (m : List It), (∀ x ∈ m, x.over) → todo m = 0 := fun m => by
       induction m with
       | nil => intro _; rfl
       | cons y m ih =>
        intro hy
        obtain ⟨r, S, V, v, e⟩ := hy y (List.mem_cons_self ..)
        have := ih fun z hz => hy z (List.mem_cons_of_mem _ hz)
        have hz : y.st.left y.c = 0 := by rw [e]; rfl
        simp only [todo, List.map_cons, List.sum_cons] at this ⊢
        omega
      rw [hz l fun x hx => Classical.byContradiction fun hno' => hno ⟨x, hx, hno'⟩] at hn
      simp at hn
     obtain ⟨m1, y, m2, rfl, k1, k2⟩ := first_not hex
     have c4' := c4
     rw [List.map_append, List.map_cons] at c4'
     obtain ⟨i, hi⟩ := h.next (c3 _ (hlC y (by simp))) (by simpa using chAll_at _ [] _ _ c4') k1 k2 (hxdn y (by simp))
     rw [h0] at hi; cases hi
   ·have hr := ready_iff.1 hj
    have hcase := c5 j (List.mem_range.2 hr.2.1)
    simp only [Bool.or_eq_true, Bool.and_eq_true, List.any_eq_true, List.all_eq_true, List.mem_map, List.contains_iff_mem, beq_iff_eq] at hcase
    rcases hcase with h1 | ⟨m, hm, h1⟩ | ⟨c, ⟨x, hx, rfl⟩, h1⟩ | ⟨h1, h2⟩
    ·have := (h.list j).2 (.inl h1)
     rw [hr.1.2] at this; cases this
    ·-- one's own
     rw [hms] at hm
     rcases List.mem_append.1 hm with hm | hm
     ·have := (h.list j).2 (.inr (.inl ((hdn j).2 ⟨m, hm, h1⟩)))
      rw [hr.1.2] at this; cases this
     ·obtain ⟨i1, i2, e⟩ := List.append_of_mem hm
      cases i1 with
      | nil => exact hown m i2 e j h1.symm
      | cons m0 i1 =>
       exfalso
       have hv0 := hhv m0 (i1 ++ m :: i2) e
       have hd := mDeps_at (pre ++ m0 :: i1) [] m i2 (by rw [show pre ++ m0 :: i1 ++ m :: i2 = pre ++ (m0 :: i1 ++ m :: i2) by simp, ← e, ← hms]; exact c2)
       rw [List.nil_append] at hd
       simp only [mDep1, Bool.and_eq_true, List.all_eq_true, Bool.or_eq_true] at hd
       have h3 := hd.1.2.2 m0 (by simp)
       rw [hv0] at h3
       have h4 : m0.1 ∈ befores .any ops (m.1 + 1) [m.1] := by
        rcases h3 with h3 | h3
        ·cases h3
        ·simpa using h3
       have h5 := hdep m0 _ e
       rcases befores_listed h.closed (h1 ▸ hj) (m.1 + 1) [m.1] (fun q hq => .inl (by simpa using hq)) _ h4 with h6 | h6
       ·have := hd.1.2.1
        simp only [Bool.not_eq_true', List.any_eq_false] at this
        exact this m0 (by simp) (by simp [h6])
       ·rw [(ready_iff.1 h5.1).1.2] at h6; cases h6
    ·exact hfl j hj x hx h1
    ·cases his : is with
     | cons m is' =>
      have hv := hhv m is' his
      have h3 := h2 m (by rw [hms, his]; simp)
      rw [hv] at h3
      have h4 : m.1 ∈ befores .any ops (j + 1) [j] := by
       rcases h3 with h3 | h3
       ·cases h3
       ·exact h3
      rcases befores_listed h.closed hj (j + 1) [j] (fun q hq => .inl (by simpa using hq)) _ h4 with h6 | h6
      ·exact hown m is' his j h6.symm
      ·rw [(ready_iff.1 (hdep m is' his).1).1.2] at h6; cases h6
     | nil =>
      rw [his] at hn
      have hex : ∃ x ∈ l, ¬ x.over := Classical.byContradiction fun hno => by
       have hz : ∀ (m : List It), (∀ x ∈ m, x.over) → todo m = 0 := fun m => by
        induction m with
        | nil => intro _; rfl
        | cons y m ih =>
         intro hy
         obtain ⟨r, S, V, v, e⟩ := hy y (List.mem_cons_self ..)
         have := ih fun z hz => hy z (List.mem_cons_of_mem _ hz)
         have hz : y.st.left y.c = 0 := by rw [e]; rfl
         simp only [todo, List.map_cons, List.sum_cons] at this ⊢
         omega
       rw [hz l fun x hx => Classical.byContradiction fun hno' => hno ⟨x, hx, hno'⟩] at hn
       simp at hn
      obtain ⟨x, hx, hnx⟩ := hex
      have h3 := h1 x.c ⟨x, hx, rfl⟩
      rcases befores_listed h.closed hj (j + 1) [j] (fun q hq => .inl (by simpa using hq)) _ h3 with h6 | h6
      ·exact hfl j hj x hx (h6 ▸ num_mem _)
      ·exfalso
       have h4 := c3 _ (hlC x hx)
       simp only [chOk1, Bool.and_eq_true, List.all_eq_true, decide_eq_true_eq, Bool.not_eq_true'] at h4
       obtain ⟨h4, h5⟩ := h4
       have := h.unseen hx (num_mem _) (h4 _ (num_mem _)).2.2 (hxdn x hx _ (num_mem _)) (fun hs => by
        cases hst : x.st with
        | no => rw [hst] at hs; exact hs
        | mid g =>
         rw [hst] at hs
         obtain ⟨d, e⟩ := hs
         rw [e] at h5
         simp at h5
        | done r S V v => exact hnx ⟨r, S, V, v, hst⟩)
       rw [h6] at this; cases this
  cases hrun with
  | done hk => exact heavy (fun m is' e => by cases e) (fun m is' e => by cases e)
  | @pure i d o y is' _ _ g1 g2 g3 g4 g5 g6 g7 g8 =>
   obtain ⟨hrd, hdp⟩ := hdep (i, true) is' rfl
   have hmm : (i, true) ∈ ms := by rw [hms]; simp
   obtain ⟨e1, e2⟩ := hmd d g5
   have hdl : ∀ x ∈ l, d ∉ x.c.dsts := fun x hx => e2 _ (hl ▸ List.mem_map.2 ⟨x, hx, rfl⟩)
   obtain ⟨v, hy, hrun'⟩ := g6 N a w W h.now
   have hfree : Region.free .any ops (markAll L0 (pre.map Prod.fst)) i = true := by
    simp only [mDep1, Bool.and_eq_true, Bool.or_eq_true] at hdp
    rcases hdp.2 with h3 | h3
    ·cases h3
    ·exact h3
   have hfree := Region.free_spec g1 hfree
   refine wpAnyJ_pure g1 (Region.noSelect_spec c0) (fun c a' w' hp => by cases hp.1) (f + n) Sx listed a w h.closed (fun j oj h1 h2 h3 h4 => hfree j oj h1 h2 ?_ h4) hrd (v := v) (.inl ⟨want_real h.now g2, fun w' _ => hrun' w'⟩) (hS _ h.below) ?_
   ·have hsz : (markAll L0 (pre.map Prod.fst)).size = listed.size := by rw [markAll_size, h.size]
    simp only [Array.getD_eq_getD_getElem?] at h3 ⊢
    rcases Nat.lt_or_ge j listed.size with hj | hj
    ·rw [Array.getElem?_eq_getElem (by omega)]
     rw [Array.getElem?_eq_getElem hj] at h3
     simp only [Option.getD_some] at h3 ⊢
     rw [Bool.eq_false_iff]
     intro h5
     have h6 := (markAll_get (pre.map Prod.fst) L0 (fun k hk => by
      obtain ⟨p, hp, rfl⟩ := List.mem_map.1 hk
      exact (hm1 p (hpm p hp)).1.2.1) j).1 (by simp [Array.getD_eq_getD_getElem?, show j < (markAll L0 (pre.map Prod.fst)).size by omega, h5])
     have := (h.list j).2 (by
      rcases h6 with h6 | h6
      ·exact .inl h6
      ·exact .inr (.inl (by simpa using h6)))
     simp only [Array.getD_eq_getD_getElem?, Array.getElem?_eq_getElem hj, Option.getD_some] at this
     rw [h3] at this; cases this
    ·rw [Array.getElem?_eq_none hj] at h3
     cases h3
   ·rw [g3]
    have hil : i < listed.size := (ready_iff.1 hrd).1.1
    exact ih (pre ++ [(i, true)]) is' l ((d, y) :: D) U W _ _ w (by rw [hms]; simp) (by simp at hn; omega) hl (by simpa using h.pure hrd hil g4 hy g7 hdl e1) g8
  | @call i d o Q is' _ _ g1 g2 g3 g4 g5 g6 g7 =>
   refine heavy (fun m is'' e => by cases e; rfl) (fun m is'' e j hj => ?_)
   cases e
   subst hj
   obtain ⟨hrd, _⟩ := hdep (j, false) is' rfl
   obtain ⟨e1, e2⟩ := hmd d g5
   have hdl : ∀ x ∈ l, d ∉ x.c.dsts := fun x hx => e2 _ (hl ▸ List.mem_map.2 ⟨x, hx, rfl⟩)
   have hil : j < listed.size := (ready_iff.1 hrd).1.1
   unfold wpOp
   simp only [g1, want_real h.now g2, if_true]
   refine .inl (Oper.wp_mono (fun a' w' hh => ?_) (g6 _ a w W h.now))
   obtain ⟨hb, r, S, V, v, k1, k2, k3, rfl, k4, k5, k6⟩ := hh
   rw [g3]
   refine .inl ⟨hS _ (h.below.trans (hb.mono h.below.size)), ih (pre ++ [(j, false)]) is' l _ _ _ _ _ w' (by rw [hms]; simp) (by simp at hn; omega) hl (by simpa using h.call hrd hil g4 hb k2 k3 k4 k5 k6 hdl e1) ?_⟩
   have := g7 r S k1
   simpa using this
end
end Go.Proofs.YthnadkagchbhbaaGreat.E

namespace Go.Proofs.YthnadkagchbhbaaGreat.E
open Go Go.RowKit
set_option linter.unusedVariables false
set_option linter.unusedSimpArgs false

section
variable {P : Program} {N : Nat} {ops : Array Oper} {sB : Slots} {RB : List Res} {WB : Wit} {a0 : Act} {w0 : World} {L0 : Array Bool} {ed : List Nat}

theorem MInv.join {l : List It} {dn : List Nat} {D : Slots} {U : List Res} {W V : Wit} {S : List Res} {listed : Array Bool} {a : Act} {w : World} (h : MInv P N ops sB RB WB a0 w0 L0 ed l dn D U W listed a w) (hv : Sep w V S) (hS : S.all Res.own = true)
  (hf : ∀ i b, V.fs i b → w0.heap.size ≤ b ∧ ∃ x ∈ l, x.st.fp b) :
  Trans w0 WB RB w (Wit.join (RB ++ U).length W V) ((RB ++ U) ++ S.map (Res.sh (RB ++ U).length)) ∧ Sep w (Wit.join (RB ++ U).length W V) ((RB ++ U) ++ S.map (Res.sh (RB ++ U).length)) := by
 have hd : ∀ i j b, W.fs i b → ¬ V.fs j b := fun i j b hi hj => by
  obtain ⟨_, x, hx, hp⟩ := hf j b hj
  exact h.fpW x hx b hp i hi
 have hlen : RB.length ≤ (RB ++ U).length := by simp
 have tr : Trans w0 WB RB w (Wit.join (RB ++ U).length W V) ((RB ++ U) ++ S.map (Res.sh (RB ++ U).length)) := by
  refine ⟨h.below.os, h.below.tape, h.below.output, h.below.size, fun b hb => h.below.block b hb.1, fun i b hi => ?_, fun i => ?_⟩
  ·simp only [Wit.join] at hi
   split at hi
   ·rcases Nat.lt_or_ge i RB.length with h' | h'
    ·exact .inl ⟨i, ((h.stab i h').2 b).1 hi⟩
    ·exact .inr (h.fresh i b h' hi)
   ·exact .inr (hf _ b hi).1
  ·rcases Nat.lt_or_ge i RB.length with hi | hi
   ·rw [List.append_assoc, List.getElem?_append_left hi]
    have hi2 : i < (RB ++ U).length := by omega
    have : (Wit.join (RB ++ U).length W V).hs i = WB.hs i := by simp only [Wit.join, hi2, if_true]; exact (h.stab i hi).1
    rw [this]; exact Goes.refl _ _
   ·rw [List.getElem?_eq_none hi]; exact trivial
 refine ⟨tr, fun i r hr => ?_, fun i hi b hb' => ?_, fun i hi b hb' => ?_, fun i j b hi hj => ?_, fun i b hi => ?_⟩
 ·rcases Nat.lt_or_ge i (RB ++ U).length with hi | hi
  ·rw [List.getElem?_append_left hi] at hr
   have e1 : (Wit.join (RB ++ U).length W V).hs i = W.hs i := by simp only [Wit.join, hi, if_true]
   have e2 : (Wit.join (RB ++ U).length W V).fs i = W.fs i := by funext b; simp only [Wit.join, hi, if_true]
   rw [e1, e2]
   rcases Nat.lt_or_ge i RB.length with h' | h'
   ·rw [List.getElem?_append_left h'] at hr
    obtain ⟨s1, s2⟩ := h.stab i h'
    have s3 : W.fs i = WB.fs i := funext fun b => propext (s2 b)
    rw [s1, s3]
    exact (h.base.sep.res i r hr).next tr fun b hb' => h.below.block b (h.base.sep.lt i b hb')
   ·have hr0 := h.now.sep.res i r (by rw [List.getElem?_append_right h'] at hr ⊢; exact hr)
    rw [List.getElem?_append_right h'] at hr
    cases r with
    | box cs =>
     obtain ⟨b, arr, e, f1, f2, f3, f4⟩ := hr0
     have hown : Res.own (.box cs) = true := List.all_eq_true.1 h.ownU _ (List.mem_of_getElem? hr)
     exact ⟨b, arr, e, f1, f2, f3, f4.more hown⟩
    | row e k rows => exact hr0
    | gone => trivial
    | pin x u =>
     obtain ⟨f1, f2⟩ := hr0
     have hown : Res.own (.pin x u) = true := List.all_eq_true.1 h.ownU _ (List.mem_of_getElem? hr)
     exact ⟨f1, f2.more (by simpa [AC.own.owns, Res.own] using hown)⟩
  ·have hr' := hr
   rw [show i = (RB ++ U).length + (i - (RB ++ U).length) by omega] at hr'
   obtain ⟨r0, e1, rfl⟩ := join_back hr'
   have e2 : (Wit.join (RB ++ U).length W V).hs i = V.hs (i - (RB ++ U).length) := by simp only [Wit.join, show ¬ i < (RB ++ U).length by omega, if_false]
   have e3 : (Wit.join (RB ++ U).length W V).fs i = V.fs (i - (RB ++ U).length) := by funext b; simp only [Wit.join, show ¬ i < (RB ++ U).length by omega, if_false]
   rw [e2, e3]
   have hr0 := hv.res _ _ e1
   cases r0 with
   | box cs =>
    obtain ⟨b, arr, e, f1, f2, f3, f4⟩ := hr0
    have hown : Res.own (.box cs) = true := List.all_eq_true.1 hS _ (List.mem_of_getElem? e1)
    exact ⟨b, arr, e, f1, f2, f3, f4.sh hown⟩
   | row e k rows => exact hr0
   | gone => trivial
   | pin x u =>
    obtain ⟨f1, f2⟩ := hr0
    have hown : Res.own (.pin x u) = true := List.all_eq_true.1 hS _ (List.mem_of_getElem? e1)
    exact ⟨f1, f2.sh (by simpa [AC.own.owns, Res.own] using hown)⟩
 ·simp only [Wit.join] at hb'
  simp only [List.length_append, List.length_map] at hi
  rw [if_neg (by simp; omega)] at hb'
  exact hv.out _ (by simp; omega) b hb'
 ·simp only [Wit.join] at hb'
  rcases Nat.lt_or_ge i (RB ++ U).length with h' | h'
  ·rw [List.getElem?_append_left h'] at hi
   rw [if_pos h'] at hb'
   exact h.now.sep.gone i hi b hb'
  ·rw [if_neg (by omega)] at hb'
   rw [show i = (RB ++ U).length + (i - (RB ++ U).length) by omega] at hi
   obtain ⟨r0, e1, e2⟩ := join_back hi
   have : r0 = .gone := by cases r0 <;> first | rfl | cases e2
   rw [this] at e1
   exact hv.gone _ e1 b hb'
 ·simp only [Wit.join] at hi hj
  split at hi <;> split at hj
  ·exact h.now.sep.apart i j b hi hj
  ·exact absurd hj (hd _ _ b hi)
  ·exact absurd hi (hd _ _ b hj)
  ·have := hv.apart _ _ b hi hj; omega
 ·simp only [Wit.join] at hi
  split at hi
  ·exact h.now.sep.lt i b hi
  ·exact hv.lt _ b hi
end

def mdOk (md : List Nat) (C : List (Chn × (AV → List Res → Prop))) : Bool := md.all fun d => C.all fun x => !x.1.dsts.contains d

/-- Calls one behind the other, and whatever is made beside them. -/
theorem T_main {P : Program} {N : Nat} {ops : Array Oper} {s s1 : Slots} {R R1 : List Res} {K : Slots → List Res → Prop} {listed : Array Bool} (f : Nat) (C : List (Chn × (AV → List Res → Prop))) (ms : List (Nat × Bool)) (md : List Nat) (er : Slots) (ks : List Nat)
  (her : ((C.flatMap fun x => x.1.dsts) ++ md).map (fun d => (d, AV.any)) = er) (hks : ms.map Prod.fst ++ (C.flatMap fun x => x.1.nums) = ks)
  (hC : AllOk P N ops (er ++ s) R C) (h : MRun P N ops md (FreshK (fun s' R' => EAnyT P N ops (er ++ s1) R1 f (markAll listed ks) s' R' K) (C.map fun x => (x.1.dst, x.2))) ms (er ++ s) R)
  (hchk : mChk ops listed ms (C.map Prod.fst) = true) (hap : apOk C = true) (hmd : mdOk md C = true) :
  EAnyT P N ops s1 R1 (f + (ms.length + cnt C)) listed s R K := by
 subst her hks
 intro G w1 W1 a0 w0 W hn1 ht hn hb hc hq
 have ge1 := fun (s : Slots) t => get_eras ((C.flatMap fun x => x.1.dsts) ++ md) s t
 have hds : ∀ x ∈ C, ∀ d ∈ x.1.dsts, d ∈ (C.flatMap fun x => x.1.dsts) ++ md := fun x hx d hd => List.mem_append_left _ (List.mem_flatMap.2 ⟨x, hx, hd⟩)
 have hn0 : Now N (((C.flatMap fun x => x.1.dsts) ++ md).map (fun d => (d, AV.any)) ++ s) R a0 w0 W := hn.sub fun t => by
  by_cases e : t ∈ (C.flatMap fun x => x.1.dsts) ++ md
  ·exact .inl ((ge1 s t).1 e)
  ·exact .inr ((ge1 s t).2 e).symm
 have hchk' := hchk
 simp only [mChk, Bool.and_eq_true, List.all_eq_true] at hchk'
 obtain ⟨⟨_, q1, _⟩, ⟨q3, _⟩, _⟩ := hchk'
 have hnum : ∀ x ∈ C, ∀ k ∈ x.1.nums, k < listed.size := fun x hx k hk => by
  have := q3 x.1 (List.mem_map_of_mem hx)
  simp only [chOk1, Bool.and_eq_true, List.all_eq_true, decide_eq_true_eq, Bool.not_eq_true'] at this
  exact (this.1 k hk).2.1
 have hnumM : ∀ m ∈ ms, m.1 < listed.size := fun m hm => by
  have := q1 m hm
  simp only [mOne, Bool.and_eq_true, decide_eq_true_eq] at this
  exact this.1.2.1
 have key := main_wp (P := P) (N := N) (ops := ops) (sB := ((C.flatMap fun x => x.1.dsts) ++ md).map (fun d => (d, AV.any)) ++ s) (RB := R) (WB := W) (a0 := a0) (w0 := w0) (L0 := listed) (ed := (C.flatMap fun x => x.1.dsts) ++ md) (CQ := C) (ms := ms) (md := md) (Sx := fun w' => Below w1.heap.size w1 w') (G := G) (f := f)
  (KF := FreshK (fun s' R' => EAnyT P N ops (((C.flatMap fun x => x.1.dsts) ++ md).map (fun d => (d, AV.any)) ++ s1) R1 f (markAll listed (ms.map Prod.fst ++ (C.flatMap fun x => x.1.nums))) s' R' K) (C.map fun x => (x.1.dst, x.2)))
  (fun w hw => hb.trans (hw.mono hb.size)) hchk (fun d hd => ⟨List.mem_append_right _ hd, fun x hx hx' => by
    simp only [mdOk, List.all_eq_true, Bool.not_eq_true'] at hmd
    have := hmd d hd x hx
    simp at this; exact this hx'⟩) (fun l D U W' lst a w hl hov hi hK => ?_) (ms.length + cnt C) [] ms (C.map fun x => ⟨x.1, x.2, .no⟩) [] [] W listed a0 w0 rfl (by simp [todo, cnt, St.left, Function.comp_def]) (by simp [Function.comp_def])
  ⟨hn0, by simpa using hn0, fun p hp => by simp at hp, rfl, fun i hi => ⟨rfl, fun _ => Iff.rfl⟩, fun i b hi hf => absurd hf (hn.sep.out i hi b), Below.refl _ _, fun x hx => by
    obtain ⟨y, hy, rfl⟩ := List.mem_map.1 hx
    exact hC.mem y hy, fun x hx => by
    obtain ⟨y, hy, rfl⟩ := List.mem_map.1 hx
    trivial, fun x hx b hb => by
    obtain ⟨y, hy, rfl⟩ := List.mem_map.1 hx
    exact hb.elim, fun x hx b hb => by
    obtain ⟨y, hy, rfl⟩ := List.mem_map.1 hx
    exact hb.elim, apOk_pair C hap, rfl, fun k => ⟨.inl, fun h => by
     rcases h with h | h | ⟨x, hx, h⟩
     ·exact h
     ·simp at h
     ·obtain ⟨y, hy, rfl⟩ := List.mem_map.1 hx
      exact h.elim⟩, hc, fun t _ => rfl, fun x hx d hd => by
    obtain ⟨y, hy, rfl⟩ := List.mem_map.1 hx
    exact ⟨(ge1 s d).1 (hds y hy d hd), hds y hy d hd⟩, fun t ht => (ge1 s t).1 ht⟩ (by simpa using h)
 ·exact key
 ·have hmemC : ∀ x ∈ l, (x.c, x.Q) ∈ C := fun x hx => hl ▸ List.mem_map.2 ⟨x, hx, rfl⟩
  have hmeml : ∀ y ∈ C, ∃ x ∈ l, x.c = y.1 := fun y hy => by
   rw [← hl] at hy
   obtain ⟨x, hx, rfl⟩ := List.mem_map.1 hy
   exact ⟨x, hx, rfl⟩
  have hlst : markAll listed (ms.map Prod.fst ++ (C.flatMap fun x => x.1.nums)) = lst := by
   refine bools_ext (by rw [markAll_size, hi.size]) fun k => ?_
   rw [markAll_get _ _ (fun k hk => by
    rcases List.mem_append.1 hk with hk | hk
    ·obtain ⟨m, hm, rfl⟩ := List.mem_map.1 hk
     exact hnumM m hm
    ·obtain ⟨x, hx, hk⟩ := List.mem_flatMap.1 hk
     exact hnum x hx k hk), hi.list k]
   constructor
   ·rintro (h1 | h1)
    ·exact .inl h1
    ·rcases List.mem_append.1 h1 with h1 | h1
     ·exact .inr (.inl (by simpa using h1))
     ·obtain ⟨y, hy, hk⟩ := List.mem_flatMap.1 h1
      obtain ⟨x, hx, e⟩ := hmeml y hy
      obtain ⟨r, S, V, v, e2⟩ := hov x hx
      exact .inr (.inr ⟨x, hx, by rw [e2]; show k ∈ x.c.nums; rw [e]; exact hk⟩)
   ·rintro (h1 | h1 | ⟨x, hx, h1⟩)
    ·exact .inl h1
    ·exact .inr (List.mem_append_left _ (by simpa using h1))
    ·obtain ⟨r, S, V, v, e2⟩ := hov x hx
     rw [e2] at h1
     exact .inr (List.mem_append_right _ (List.mem_flatMap.2 ⟨_, hmemC x hx, h1⟩))
  subst hlst
  have hmap : (l.map fun x => (x.c.dst, x.Q)) = C.map fun x => (x.1.dst, x.2) := by rw [← hl, List.map_map]; rfl
  rw [← hmap] at hK
  obtain ⟨D2, S2, V2, hK2, g1, g2, g3, g4⟩ := gather (a := a) (w := w) (Pb := fun b => w0.heap.size ≤ b ∧ ∃ x ∈ l, x.st.fp b) (s := D ++ (((C.flatMap fun x => x.1.dsts) ++ md).map (fun d => (d, AV.any)) ++ s)) (R := R ++ U) l [] [] W0 hov hi.ok hi.apart (Sep.none w) rfl (fun p hp => by simp at hp) (fun i b h => h.elim) (fun x hx b hb => ⟨(hi.fp x hx b hb).1, x, hx, hb⟩) (fun x hx i b h => h.elim) (by rw [show shS (R ++ U).length [] = [] from rfl, List.nil_append, List.map_nil, List.append_nil]; exact hK)
  obtain ⟨tr, sp⟩ := hi.join g1 g2 g4
  have hnow : Now N (shS (R ++ U).length D2 ++ (D ++ (((C.flatMap fun x => x.1.dsts) ++ md).map (fun d => (d, AV.any)) ++ s))) ((R ++ U) ++ S2.map (Res.sh (R ++ U).length)) a w (Wit.join (R ++ U).length W' V2) := by
   refine ⟨hi.now.size, hi.now.defers, fun t => ?_, sp⟩
   rcases get_shS (n := (R ++ U).length) (s := D ++ (((C.flatMap fun x => x.1.dsts) ++ md).map (fun d => (d, AV.any)) ++ s)) (t := t) D2 with ⟨p, h1, rfl, h3⟩ | h3
   ·rw [h3]
    obtain ⟨r1, r2⟩ := g3 p h1
    exact r2.sh r1
   ·rw [h3]
    rcases get_app D (((C.flatMap fun x => x.1.dsts) ++ md).map (fun d => (d, AV.any)) ++ s) t with ⟨p, h1, h2, h4⟩ | h4
    ·have hv := hi.now.val t
     rw [h4] at hv ⊢
     exact hv.more (hi.ownD p h1)
    ·rw [h4]
     by_cases e : t ∈ (C.flatMap fun x => x.1.dsts) ++ md
     ·rw [(ge1 s t).1 e]; exact AVR.any ..
     ·rw [hi.same t e]; exact (hn0.val t).next tr
  have hn1' : Now N (((C.flatMap fun x => x.1.dsts) ++ md).map (fun d => (d, AV.any)) ++ s1) R1 a w1 W1 := by
   refine ⟨hi.now.size, hi.now.defers, fun t => ?_, hn1.sep⟩
   by_cases e : t ∈ (C.flatMap fun x => x.1.dsts) ++ md
   ·rw [(ge1 s1 t).1 e]; exact AVR.any ..
   ·rw [(ge1 s1 t).2 e, hi.same t e]; exact hn1.val t
  exact hK2 G w1 W1 a w _ hn1' (ht.trans tr) hnow (hb.trans (hi.below.mono hb.size)) hi.closed fun a' w' hr => hq a' w' (hr.after tr)

section
variable {P : Program} {N : Nat} {s : Slots} {R : List Res} {ops : Array Oper}
theorem F_alloc {o : Oper} {t : Nat} {zs : List AC} (ho : o.op = .alloc t) (hz : zav P t = some zs) (hown : AC.own.owns zs = true := by rfl) : FOp P N o s R (fun r S => r = .c (.bp 0 0) ∧ S = [.box zs]) := by
 intro Q a w W hn
 obtain ⟨v, hr, har⟩ := zav_run hz w
 have hrun : (execOp a.eval o).run P w = .ok (.value (.pointer (some ⟨w.heap.size, 0, none⟩))) (w.alloc (.cells v.cells t)) := by
  simp only [execOp, ho, Instr.alloc, Sem.run_bind, hr, Result.andThen_ok]
  rfl
 unfold Oper.wp
 rw [hrun, Oper.upon_value]
 obtain ⟨V, k1, k2, k3⟩ := Sep.box (Sep.none w) (cs := zs) (arr := v.cells) (e := t) (har W0 [])
 have hb : Below w.heap.size w (w.alloc (.cells v.cells t)) := ⟨rfl, rfl, rfl, by simp, fun b hb' => heap_alloc_lt w _ b hb'⟩
 refine ⟨hb, _, _, V, _, ⟨rfl, rfl⟩, rfl, by simp [Res.own, hown], rfl, bp_new (R := []) k3, k2, fun i b hi => ?_⟩
 rcases k1.own i b hi with ⟨j, hj⟩ | hj
 ·exact hj.elim
 ·exact hj

variable {md : List Nat} {KF : Slots → List Res → Prop} {ms : List (Nat × Bool)} {i d : Nat} {o : Oper}
theorem m_pure {y : AV} (hi : ops[i]? = some o) (hw : want ops o s = some true) (hd : o.dst = some d) (hv : Pure P o s R y) (h : MRun P N ops md KF ms ((d, y) :: s) R) (hN : d < N := by decide) (hm : d ∈ md := by decide) (ho : y.own = true := by rfl) : MRun P N ops md KF ((i, true) :: ms) s R := .pure hi hw hd hN hm hv ho h
theorem m_call {x : Operand} {args : Array Operand} {ats : Array TypeId} {f : FuncId} {args' : List AV} {Q : AV → List Res → Prop} (hi : ops[i]? = some o) (hw : want ops o s = some true) (ho : o.op = .call { callee := .value x, args := args, argTypes := ats }) (hd : o.dst = some d) (hx : ev s x = .c (.fn f [])) (hf : callable P f = true)
  (h0 : EFn P f args' [] Q) (hk : ∀ r S, Q r S → MRun P N ops md KF ms ((d, r.sh R.length) :: s) (R ++ S.map (Res.sh R.length))) (ha : (args.toList.map (ev s)).map (E.lend R) = args' := by repeat' (first | (refine lend_whole rfl ?_; first | assumption | exact ints_len _ | exact pairs_len _ | exact quads_len _ | exact quints_len _ | exact bools_len _ | (simp [ints_len, bools_len, pairs_len, quads_len, quints_len, part_len, *]; done) | (simp [ints_len, bools_len, pairs_len, quads_len, quints_len]; omega) | rfl) | refine agg_eq ?_ | (refine lendC_whole rfl ?_; first | assumption | exact ints_len _ | exact pairs_len _ | exact quads_len _ | exact quints_len _ | exact bools_len _ | (simp [ints_len, bools_len, pairs_len, quads_len, quints_len, part_len, *]; done) | (simp [ints_len, bools_len, pairs_len, quads_len, quints_len]; omega) | rfl) | refine cons_eq ?_ ?_ | rfl | (simp [E.lend, E.lendC, E.ev, E.cv, E.get, E.fill', E.fill, AV.sh, AC.sh, Res.sh, ints_len, *]; done))) (hq : ∀ r S, Q r S → r.own = true ∧ S.all Res.own = true := by rintro r S ⟨rfl, rfl⟩; exact ⟨rfl, rfl⟩) (hN : d < N := by decide) (hm : d ∈ md := by decide) : MRun P N ops md KF ((i, false) :: ms) s R := .call hi hw hd hN hm (F_call ho hx hf h0 ha hq) hk
theorem m_done (h : KF s R) : MRun P N ops md KF [] s R := .done h
end

theorem t_main {P : Program} {N : Nat} {ops : Array Oper} {s s1 : Slots} {R R1 : List Res} {K : Slots → List Res → Prop} {listed : Array Bool} (f : Nat) (C : List (Chn × (AV → List Res → Prop))) (ms : List (Nat × Bool)) (md : List Nat) (er : Slots) (ks : List Nat) {CD : List (Nat × (AV → List Res → Prop))}
  (hC : AllOk P N ops (er ++ s) R C) (h : MRun P N ops md (FreshK (fun s' R' => EAnyT P N ops (er ++ s1) R1 f (markAll listed ks) s' R' K) CD) ms (er ++ s) R)
  (her : ((C.flatMap fun x => x.1.dsts) ++ md).map (fun d => (d, AV.any)) = er := by rfl) (hks : ms.map Prod.fst ++ (C.flatMap fun x => x.1.nums) = ks := by rfl) (hCD : C.map (fun x => (x.1.dst, x.2)) = CD := by rfl)
  (hchk : mChk ops listed ms (C.map Prod.fst) = true := by kernel_rfl) (hap : apOk C = true := by kernel_rfl) (hmd : mdOk md C = true := by kernel_rfl) : EAnyT P N ops s1 R1 (f + (ms.length + cnt C)) listed s R K := by
 subst hCD
 exact T_main f C ms md er ks her hks hC h hchk hap hmd
end Go.Proofs.YthnadkagchbhbaaGreat.E

namespace Go.Proofs.YthnadkagchbhbaaGreat.E
open Go Go.RowKit
set_option linter.unusedVariables false
set_option linter.unusedSimpArgs false

/-- A row of one's own is turned into a longer one, where it lies or elsewhere. -/
theorem Sep.regrow {w w' : World} {W : Wit} {R : List Res} {i e k : Nat} {rows rows' : List (List T)} {v' : Value} {cells' : List Value} (hs : Sep w W R) (hR : R[i]? = some (.row e k rows)) (ho : w'.os = w.os) (htp : w'.tape = w.tape) (hout : w'.output = w.output) (hsz : w.heap.size ≤ w'.heap.size)
  (hb : ∀ c, c < w.heap.size → (W.hs i).ownBlock ≠ some c → w'.heap[c]? = w.heap[c]?) (hown : w'.ownsRow 0 e k v' rows'.length cells') (hk : ∀ r ∈ rows', r.length = k) (how : Ow w' rows'.flatten cells' (fun _ => False)) (hv : ∀ b, v'.ownBlock = some b → (W.hs i).ownBlock = some b ∨ w.heap.size ≤ b)
  (hlen : rows.length < rows'.length) : ∃ W', Trans w W R w' W' (R.set i (.row e k rows')) ∧ Sep w' W' (R.set i (.row e k rows')) ∧ W'.hs i = v' := by
 have hi : i < R.length := by
  rcases Nat.lt_or_ge i R.length with h' | h'
  ·exact h'
  ·rw [List.getElem?_eq_none h'] at hR; cases hR
 obtain ⟨f1, f2, cells, G, f3, f4, f5, f6⟩ := hs.res i _ hR
 let W' : Wit := ⟨fun j => if j = i then v' else W.hs j, fun j => if j = i then (fun b => v'.ownBlock = some b) else W.fs j⟩
 have wh : W'.hs i = v' := by simp [W']
 have wf : W'.fs i = fun b => v'.ownBlock = some b := by simp [W']
 have wh' : ∀ j, j ≠ i → W'.hs j = W.hs j := fun j hj => by simp [W', hj]
 have wf' : ∀ j, j ≠ i → W'.fs j = W.fs j := fun j hj => by simp [W', hj]
 have hblk : ∀ c, c < w.heap.size → ¬ W.fs i c → w'.heap[c]? = w.heap[c]? := fun c hc1 hc2 => hb c hc1 fun e => hc2 ((f6 c).2 (.inl e))
 have hvlt : ∀ b, v'.ownBlock = some b → W.fs i b ∨ w.heap.size ≤ b := fun b hb' => by
  rcases hv b hb' with h | h
  ·exact .inl ((f6 b).2 (.inl h))
  ·exact .inr h
 have tr : Trans w W R w' W' (R.set i (.row e k rows')) := by
  refine ⟨ho, htp, hout, hsz, fun c hc' => hblk c hc'.1 (hc'.2 i), fun j c hj => ?_, fun j => ?_⟩
  ·by_cases e : j = i
   ·subst e
    rw [wf] at hj
    rcases hvlt c hj with h' | h'
    ·exact .inl ⟨_, h'⟩
    ·exact .inr h'
   ·rw [wf' j e] at hj; exact .inl ⟨j, hj⟩
  ·by_cases e' : i = j
   ·subst e'
    rw [List.getElem?_set_self hi, hR]
    exact ⟨rfl, rfl, by omega, fun e => by omega⟩
   ·rw [List.getElem?_set_ne e', wh' j (Ne.symm e')]
    exact Goes.refl _ _
 refine ⟨W', tr, hs.step tr i (fun j h1 _ => by simpa using h1) (fun j h1 _ => List.getElem?_set_ne (Ne.symm h1)) wh' (fun j h1 b => by rw [wf' j h1]) (fun j h1 c hc' => hblk c (hs.lt j c hc') fun e => h1 (hs.apart j i c hc' e))
  (fun q hq => ?_) (fun b hb' => ?_) (fun b hb' => ?_) (fun h' => absurd hi (by simp at h'; omega)) (fun h' => by rw [List.getElem?_set_self hi] at h'; cases h'), wh⟩
 ·rw [List.getElem?_set_self hi] at hq
  obtain rfl := Option.some.inj hq
  rw [wh, wf]
  exact ⟨f1, hk, cells', fun _ => False, hown, how, fun b _ h => h, fun b => by simp⟩
 ·rw [wf] at hb'; exact hvlt b hb'
 ·rw [wf] at hb'; exact (hown.lt b hb').2

theorem scs_eq : ∀ {vs us : List Value}, vs.map T.sc = us.map T.sc → vs = us
 | [], [], _ => rfl
 | [], _ :: _, h => by simp at h
 | _ :: _, [], h => by simp at h
 | a :: vs, b :: us, h => by
  simp only [List.map_cons, List.cons.injEq, T.sc.injEq] at h
  rw [h.1, scs_eq h.2]

/-- Scalars of one's own: the cells are they. -/
theorem Ow.scs_inv {w : World} {ts : List T} {vs : List Value} {F : Nat → Prop} (h : Ow w ts vs F) : ts.all isSc = true → ts = vs.map T.sc := by
 induction h with
 | nil => intro _; rfl
 | sc _ _ ih =>
  intro ha
  simp only [List.all_cons, Bool.and_eq_true] at ha
  rw [List.map_cons, ← ih ha.2]
 | sl e k h1 h2 h3 _ _ h6 h7 ih1 ih2 => intro ha; simp [isSc] at ha

def flat (xs : List (Int × Int)) : List Value := xs.flatMap fun p => [.int .i64 p.1, .int .i64 p.2]
theorem flat_len : ∀ xs : List (Int × Int), (flat xs).length = xs.length * 2
 | [] => rfl
 | p :: xs => by simp only [flat, List.flatMap_cons, List.length_append, List.length_cons, List.length_nil]; have := flat_len xs; unfold flat at this; omega
theorem flat_pairs : ∀ xs : List (Int × Int), (pairs xs).flatten = (flat xs).map T.sc
 | [] => rfl
 | p :: xs => by have := flat_pairs xs; simp only [pairs, flat, List.map_cons, List.flatten_cons, List.flatMap_cons, List.map_append] at this ⊢; rw [this]; rfl
theorem flat_app (xs ys : List (Int × Int)) : flat (xs ++ ys) = flat xs ++ flat ys := by simp [flat]
theorem flat_take : ∀ (xs : List (Int × Int)) (k : Nat), flat (xs.take k) = (flat xs).take (k * 2)
 | [], k => by simp [flat]
 | p :: xs, 0 => by simp [flat]
 | p :: xs, k + 1 => by have := flat_take xs k; simp only [flat, List.take_succ_cons, List.flatMap_cons] at this ⊢; rw [this, show (k + 1) * 2 = k * 2 + 2 by omega]; rfl
theorem flat_drop : ∀ (xs : List (Int × Int)) (k : Nat), flat (xs.drop k) = (flat xs).drop (k * 2)
 | [], k => by simp [flat]
 | p :: xs, 0 => by simp [flat]
 | p :: xs, k + 1 => by have := flat_drop xs k; simp only [flat, List.drop_succ_cons, List.flatMap_cons] at this ⊢; rw [this, show (k + 1) * 2 = k * 2 + 2 by omega]; rfl
theorem flat_one (xs : List (Int × Int)) : ∀ v ∈ flat xs, v.oneCell' = true := by
 intro v hv
 obtain ⟨p, _, hv⟩ := List.mem_flatMap.1 hv
 simp at hv
 rcases hv with rfl | rfl <;> rfl
theorem pairs_isSc (xs : List (Int × Int)) : (pairs xs).flatten.all isSc = true := by
 rw [flat_pairs]; simp [isSc, Function.comp_def]
theorem pairs_ow (w : World) (xs : List (Int × Int)) : Ow w (pairs xs).flatten (flat xs) (fun _ => False) := by
 rw [flat_pairs]; exact Ow.scv (flat_one xs)

theorem setCells_heap {b : Nat} {e : TypeId} : ∀ (vs : List Value) (o : Nat) (w : World) (arr : Array Value), w.heap[b]? = some (.cells arr e (0, 0)) → o + vs.length ≤ arr.size →
  ∃ arr' : Array Value, (w.setCells b o vs).heap[b]? = some (.cells arr' e (0, 0)) ∧ arr'.toList = E.splice arr.toList o vs ∧ arr'.size = arr.size ∧ (∀ c, c ≠ b → (w.setCells b o vs).heap[c]? = w.heap[c]?) ∧ (w.setCells b o vs).heap.size = w.heap.size ∧ (w.setCells b o vs).os = w.os ∧ (w.setCells b o vs).tape = w.tape ∧ (w.setCells b o vs).output = w.output
 | [], o, w, arr, h, _ => ⟨arr, h, by rw [splice_nil], rfl, fun _ _ => rfl, rfl, rfl, rfl, rfl⟩
 | v :: vs, o, w, arr, h, hl => by
  have h1 := heap_setCell_at (w := w) (b := b) (o := o) h v
  obtain ⟨arr', k1, k2, k3, k4, k5, k6, k7, k8⟩ := setCells_heap vs (o + 1) (w.setCell ⟨b, o, none⟩ v) (arr.setIfInBounds o v) h1 (by simp at hl ⊢; omega)
  have ho : o < arr.toList.length := by simp at hl ⊢; omega
  refine ⟨arr', k1, ?_, by simpa using k3, fun c hc => ?_, ?_, ?_, ?_, ?_⟩
  ·rw [k2]
   have : (arr.setIfInBounds o v).toList = arr.toList.set o v := by simp
   rw [this, splice_cons _ _ _ _ ho]
  ·rw [World.setCells, k4 c hc]; exact heap_setCell_ne hc v
  ·rw [World.setCells, k5]; simp [World.setCell]
  ·rw [World.setCells, k6]; rfl
  ·rw [World.setCells, k7]; rfl
  ·rw [World.setCells, k8]; rfl
theorem sl_eq {i n m : Nat} (h : n = m) : AV.c (.sl i 0 n n) = .c (.sl i 0 m m) := by rw [h]
theorem pairs_lenApp (xs ys : List (Int × Int)) : xs.length + (pairs ys).length = (xs ++ ys).length := by simp [pairs_len]
end Go.Proofs.YthnadkagchbhbaaGreat.E

namespace Go.Proofs.YthnadkagchbhbaaGreat.E
open Go Go.RowKit
set_option linter.unusedVariables false
set_option linter.unusedSimpArgs false

def isBox : Res → Bool
 | .box _ => true
 | _ => false

section
variable {P : Program} {N : Nat} {ops : Array Oper} {s s1 : Slots} {R R1 : List Res} {K : Slots → List Res → Prop} {fuel : Nat} {listed listed' : Array Bool}

theorem stv_box_run {w : World} {W : Wit} {t : TypeId} {i off : Nat} {v u : Value} {y : AV} {ys : List AC} {R' : List Res} (hs : Sep w W R) (hx : AVR W R w (.c (.bp i off)) v) (hy : AVR W R w y u) (hys : cellsOf y = some ys) (h : stv P R t (.c (.bp i off)) ys = some R') :
  ∃ w', (Instr.storeAt t v u).run P w = .ok () w' ∧ Trans w W R w' W R' ∧ Sep w' W R' ∧ ∃ b, W.fs i b ∧ ∀ c, c ≠ b → w'.heap[c]? = w.heap[c]? := by
 have hc := cells_rel hy hys
 have hcl := hc.length
 unfold stv at h
 split at h
 ·rename_i i0 off0 bb n q1 ht
  obtain ⟨rfl, rfl⟩ : i = i0 ∧ off = off0 := by cases q1; exact ⟨rfl, rfl⟩
  split at h
  ·rename_i cs hR
   split at h
   ·rename_i hl
    obtain ⟨hl1, hl2⟩ := hl
    obtain rfl := Option.some.inj h
    cases hx with
    | bp h1 h2 h3 _ =>
     obtain ⟨b, e1, e2⟩ := h3 cs hR
     obtain ⟨b', arr, e, f1, f2, f3, f4⟩ := hs.res i _ hR
     rw [e1] at f1
     obtain rfl : b = b' := by cases f1; rfl
     subst e2
     obtain ⟨w', g1, g2⟩ := run_storeCells_ (P := P) (b := b) (o := off) u.cells.toList 0 w arr f3 hc.one (by have := f4.length; simp only [Array.length_toList] at this hcl ⊢; omega)
     obtain ⟨k1, k2⟩ := hs.turn (r' := .box (E.splice cs off ys)) hR ((f2 b).2 rfl) g2 (fun _ => rfl) (by simp) (fun tr => by
      obtain ⟨arr', m1, m2⟩ := g2.at_
      exact ⟨b, arr', e, e1, f2, m2, by rw [m1]; exact (f4.splice hc off).next tr⟩)
     refine ⟨w', ?_, k1, k2, b, (f2 b).2 rfl, g2.other⟩
     have hsz : u.cells.size = n := by rw [← Array.length_toList, ← hcl, hl1]
     simp only [Instr.storeAt, Instr.sureAddr, Sem.run_bind, Sem.run_pure, Result.andThen_ok, storeVar, run_sizeOf_ ht, hsz]
     simpa using g1
   ·cases h
  ·cases h
 ·rename_i q1 _; cases q1
 ·cases h

/-- What stood at the beginning, all boxes: what they hold is not what was made since. -/
theorem box_new {w1 w : World} {W1 W : Wit} (h1 : Sep w1 W1 R1) (ht : Trans w1 W1 R1 w W R) (hs : Sep w W R) (hR : R.take R1.length = R1) (hb : R1.all isBox = true) {i c : Nat} (hi : R1.length ≤ i) (hc : W.fs i c) : w1.heap.size ≤ c := by
 rcases ht.own i c hc with ⟨j, hj⟩ | h
 ·exfalso
  have hjl : j < R1.length := by
   rcases Nat.lt_or_ge j R1.length with h' | h'
   ·exact h'
   ·exact absurd hj (h1.out j h' c)
  have e1 : R1[j]? = some R1[j] := List.getElem?_eq_getElem hjl
  have e2 : R[j]? = some R1[j] := by
   rw [← e1]
   conv => rhs; rw [← hR]
   rw [List.getElem?_take, if_pos hjl]
  have hg := ht.goes j
  have hbx := List.all_eq_true.1 hb _ (List.getElem_mem hjl)
  have r1 := h1.res j _ e1
  have r2 := hs.res j _ e2
  rw [e1, e2] at hg
  generalize R1[j] = r at *
  cases r with
  | box cs =>
   have hg' : W.hs j = W1.hs j := hg
   obtain ⟨b, arr, e, k1, k2, -, -⟩ := r1
   obtain ⟨b', arr', e', k1', k2', -, -⟩ := r2
   rw [hg', k1] at k1'
   obtain rfl : b = b' := by cases k1'; rfl
   have : W.fs j c := (k2' c).2 ((k2 c).1 hj)
   have := hs.apart i j c hc this
   omega
  | _ => simp [isBox] at hbx
 ·exact h

theorem T_store {i ib off t : Nat} {o : Oper} {x y : Operand} {ys : List AC} {R' : List Res} (hi : ops[i]? = some o) (hw : want ops o s = some true) (hr : Region.ready .any ops listed = [i]) (ho : o.op = .store t x y) (hd : o.dst = none) (hl : listed.setIfInBounds i true = listed')
  (hx : ev s x = .c (.bp ib off)) (hys : cellsOf (ev s y) = some ys) (hR : stv P R t (.c (.bp ib off)) ys = some R') (hn : R1.length ≤ ib) (hsm : R.take R1.length = R1) (hb : R1.all isBox = true)
  (h : EAnyT P N ops s1 R1 fuel listed' s R' K) : EAnyT P N ops s1 R1 (fuel + 1) listed s R K := by
 subst hl
 intro G w1 W1 a w W hn1 ht hnw hbl hc hq
 refine ⟨fun h0 => (by rw [hr] at h0; cases h0), fun j hj => ?_⟩
 have hc' := hc.step hj
 rw [hr] at hj
 obtain rfl : j = i := by simpa using hj
 unfold wpOp
 simp only [hi, want_real hnw hw, if_true]
 have hvx := hnw.ev x
 rw [hx] at hvx
 obtain ⟨w', h1, h2, h3, b, h4, h5⟩ := stv_box_run (P := P) hnw.sep hvx (hnw.ev y) hys hR
 have hbn : w1.heap.size ≤ b := box_new hn1.sep ht hnw.sep hsm hb hn h4
 have hb' : Below w1.heap.size w1 w' := hbl.trans ⟨h2.os, h2.tape, h2.output, h2.size, fun k hk => h5 k (by omega)⟩
 refine .inl ?_
 unfold Oper.wp
 have hrr : (execOp a.eval o).run P w = .ok .skip w' := by
  simp only [execOp, ho, Sem.run_bind, h1, Result.andThen_ok, Sem.run_pure]
 rw [hrr, Oper.upon_skip, hd]
 exact .inl ⟨hb', h G w1 W1 a w' W hn1 (ht.trans h2) (hnw.next h2 h3) hb' hc' fun a'' w'' hr' => hq a'' w'' (hr'.after h2)⟩

theorem t_store (i : Nat) {ib off t : Nat} {o : Oper} {x y : Operand} {ys : List AC} {R' : List Res} (hi : ops[i]? = some o) (hw : want ops o s = some true) (ho : o.op = .store t x y) (hd : o.dst = none)
  (hx : ev s x = .c (.bp ib off)) (hys : cellsOf (ev s y) = some ys) (hR : stv P R t (.c (.bp ib off)) ys = some R') (h : EAnyT P N ops s1 R1 fuel listed' s R' K) (hr : Region.ready .any ops listed = [i] := by kernel_rfl) (hl : listed.setIfInBounds i true = listed' := by rfl)
  (hn : R1.length ≤ ib := by exact Nat.le_of_ble_eq_true rfl) (hsm : R.take R1.length = R1 := by rfl) (hb : R1.all isBox = true := by rfl) : EAnyT P N ops s1 R1 (fuel + 1) listed s R K := T_store hi hw hr ho hd hl hx hys hR hn hsm hb h
end
end Go.Proofs.YthnadkagchbhbaaGreat.E

namespace Go.Proofs.YthnadkagchbhbaaGreat.E
open Go Go.RowKit
set_option linter.unusedVariables false
set_option linter.unusedSimpArgs false

section
variable {P : Program} {N n : Nat} {ops : Array Oper} {s : Slots} {R RB : List Res} {K : Slots → List Res → Prop} {fuel : Nat} {listed listed' : Array Bool}

theorem stv_ep_run {w : World} {W : Wit} {t : TypeId} {i j off tot : Nat} {v u : Value} {y : AV} {ys : List AC} {R' : List Res} (hs : Sep w W R) (hx : AVR W R w (.c (.ep i j off tot)) v) (hy : AVR W R w y u) (hys : cellsOf y = some ys) (h : stv P R t (.c (.ep i j off tot)) ys = some R') :
  ∃ w', (Instr.storeAt t v u).run P w = .ok () w' ∧ Trans w W R w' W R' ∧ Sep w' W R' ∧ ∃ b, W.fs i b ∧ ∀ c, c ≠ b → w'.heap[c]? = w.heap[c]? := by
 have hc := cells_rel hy hys
 have hcl := hc.length
 unfold stv at h
 split at h
 ·rename_i q1 _; cases q1
 ·rename_i i0 j0 off0 tot0 bb n q1 ht
  obtain ⟨rfl, rfl, rfl, rfl⟩ : i = i0 ∧ j = j0 ∧ off = off0 ∧ tot = tot0 := by cases q1; exact ⟨rfl, rfl, rfl, rfl⟩
  split at h
  ·rename_i e k rows xs hR hm
   split at h
   ·rename_i row hrow
    split at h
    ·rename_i hcond
     obtain ⟨c1, c2, c3, c4⟩ := hcond
     obtain rfl := Option.some.inj h
     obtain ⟨m1, m2⟩ := mapM_act hm hc
     cases hx with
     | ep h1 h2 h3 _ =>
      obtain ⟨b, nn, c, e1, e2⟩ := (h3 _ _ _ hR).2 c1
      subst e2
      obtain ⟨f1, f2, cells, G, f3, f4, f5, f6⟩ := hs.res i _ hR
      have hjl : j < rows.length := by
       rcases Nat.lt_or_ge j rows.length with h' | h'
       ·exact h'
       ·rw [List.getElem?_eq_none h'] at hrow; cases hrow
      have hjk : j * k + k ≤ rows.length * k := by rw [← Nat.succ_mul]; exact Nat.mul_le_mul_right k hjl
      have hfl := flatten_len f2
      rcases f3.2 with ⟨g4, g5⟩ | ⟨g, cap, cur, g4, _, g5, g6, g7, g8, g9⟩
      ·rw [e1] at g4; cases g4
      ·rw [e1] at g4
       obtain ⟨rfl, rfl, rfl⟩ : b = g ∧ nn = rows.length ∧ c = cap := by cases g4; exact ⟨rfl, rfl, rfl⟩
       have hcap : rows.length * k ≤ cur.size := by rw [g8]; exact Nat.mul_le_mul_right k g6
       have hxl : u.cells.toList.length = n := by rw [m1, c2]
       obtain ⟨w', p1, p2⟩ := run_storeCells_ (P := P) (b := b) (o := j * k + off) u.cells.toList 0 w cur g5 hc.one (by omega)
       have hob : (W.hs i).ownBlock = some b := by rw [e1]; rfl
       obtain ⟨k1, k2⟩ := hs.turn (r' := .row e k (rows.set j (E.splice row off (xs.map T.sc)))) hR ((f6 b).2 (.inl hob)) p2 (fun _ => ⟨rfl, rfl, by simp, fun _ => rfl⟩) (by simp) (fun tr => by
        obtain ⟨arr', q1, q2⟩ := p2.at_
        have hrk : ∀ r ∈ rows.set j (E.splice row off (xs.map T.sc)), r.length = k := by
         intro r hr
         rcases List.mem_or_eq_of_mem_set hr with hr | rfl
         ·exact f2 r hr
         ·rw [length_splice _ _ _ (by rw [f2 row (List.mem_of_getElem? hrow)]; simp; omega)]; exact f2 row (List.mem_of_getElem? hrow)
        have hflat := flatten_set f2 hrow off (xs.map T.sc) (by simp; omega)
        have hle : j * k + off + u.cells.toList.length ≤ rows.length * k := by omega
        have hcells : arr'.toList.take (rows.length * k) = E.splice cells (j * k + off) xs := by
         rw [q1, Nat.add_zero, take_splice _ _ _ _ hle (by simpa using hcap), g9, m1]
        have hclen : cells.length = rows.length * k := f3.1
        have hz2 : u.cells.size = n := by rw [← hxl, Array.length_toList]
        have hz1 : j * k + off + 0 + u.cells.toList.length ≤ cur.toList.length := by simp only [Array.length_toList]; omega
        have hasz : arr'.size = c * k := by rw [← Array.length_toList, q1, length_splice _ _ _ hz1, Array.length_toList, g8]
        refine ⟨f1, hrk, E.splice cells (j * k + off) xs, G, ⟨?_, .inr ⟨b, c, arr', ?_, Nat.zero_le _, q2, ?_, g7, hasz, ?_⟩⟩, ?_, f5, f6⟩
        ·rw [length_splice _ _ _ (by omega), List.length_set, hclen]
        ·rw [e1, List.length_set]
        ·rw [List.length_set]; exact g6
        ·rw [List.length_set]; exact hcells
        ·rw [hflat]
         refine (f4.splice (j * k + off) xs m2 (by rw [f4.length]; omega) ?_).mono (fun z hz => p2.other z (fun ez => f5 b hob (ez ▸ hz)))
         have : ((rows.flatten.drop (j * k)).take k).drop off |>.take n |>.all isSc := by rw [flatten_row f2 hrow]; exact c4
         rw [List.drop_take, List.take_take, List.drop_drop] at this
         rw [c2]
         rwa [Nat.min_eq_left (by omega)] at this)
       refine ⟨w', ?_, k1, k2, b, (f6 b).2 (.inl hob), p2.other⟩
       have hsz : u.cells.size = n := by rw [← Array.length_toList, hxl]
       simp only [Instr.storeAt, Instr.sureAddr, Sem.run_bind, Sem.run_pure, Result.andThen_ok, storeVar, run_sizeOf_ ht, hsz]
       simpa using p1
    ·cases h
   ·cases h
  ·cases h
 ·cases h

/-- The boxes of the beginning hold what they held. -/
def BoxS (RB : List Res) (WB : Wit) (wB w : World) : Prop := ∀ j cs, RB[j]? = some (.box cs) → ∀ c, WB.fs j c → w.heap[c]? = wB.heap[c]?

def boxKeep : List Res → List Res → Bool
 | [], _ => true
 | .box _ :: l, .box _ :: m => boxKeep l m
 | .box _ :: _, _ => false
 | _ :: l, _ :: m => boxKeep l m
 | _ :: _, [] => false
theorem boxKeep_at : ∀ {l m : List Res}, boxKeep l m = true → ∀ (j : Nat) (cs : List AC), l[j]? = some (Res.box cs) → ∃ cs' : List AC, m[j]? = some (Res.box cs')
 | [], _, _, j, cs, h => by simp at h
 | .box _ :: l, .box c :: m, hk, 0, cs, h => ⟨c, rfl⟩
 | .box _ :: l, .box c :: m, hk, j + 1, cs, h => boxKeep_at (l := l) (m := m) (by simpa [boxKeep] using hk) j cs (by simpa using h)
 | .box _ :: _, [], hk, _, _, _ => by simp [boxKeep] at hk
 | .box _ :: _, .row _ _ _ :: _, hk, _, _, _ => by simp [boxKeep] at hk
 | .box _ :: _, .gone :: _, hk, _, _, _ => by simp [boxKeep] at hk
 | .box _ :: _, .pin _ _ :: _, hk, _, _, _ => by simp [boxKeep] at hk
 | .row _ _ _ :: l, [], hk, _, _, _ => by simp [boxKeep] at hk
 | .gone :: l, [], hk, _, _, _ => by simp [boxKeep] at hk
 | .pin _ _ :: l, [], hk, _, _, _ => by simp [boxKeep] at hk
 | .row _ _ _ :: l, _ :: m, hk, 0, cs, h => by simp at h
 | .gone :: l, _ :: m, hk, 0, cs, h => by simp at h
 | .pin _ _ :: l, _ :: m, hk, 0, cs, h => by simp at h
 | .row _ _ _ :: l, _ :: m, hk, j + 1, cs, h => boxKeep_at (l := l) (m := m) (by simpa [boxKeep] using hk) j cs (by simpa using h)
 | .gone :: l, _ :: m, hk, j + 1, cs, h => boxKeep_at (l := l) (m := m) (by simpa [boxKeep] using hk) j cs (by simpa using h)
 | .pin _ _ :: l, _ :: m, hk, j + 1, cs, h => boxKeep_at (l := l) (m := m) (by simpa [boxKeep] using hk) j cs (by simpa using h)

def EAnyB (P : Program) (N : Nat) (ops : Array Oper) (RB : List Res) (fuel : Nat) (listed : Array Bool) (s : Slots) (R : List Res) (K : Slots → List Res → Prop) : Prop :=
 ∀ (G : Act → World → Prop) (wB : World) (WB : Wit) a w W, Sep wB WB RB → Trans wB WB RB w W R → Now N s R a w W → BoxS RB WB wB w → Closed .any ops listed → (∀ a' w', Reach N w W R K a' w' → G a' w') →
  wpAnyJ P .any ops (fun ex a' w' => ex = .normal ∧ G a' w') fuel (fun w' => BoxS RB WB wB w') listed a w

theorem E_drawB {id : Nat} {Q : Exit → Slots → List Res → Prop} (hm : P.follows .mixedOrders = true) (h : EAnyB P N ops R ops.size (Array.replicate ops.size false) s R (Q .normal)) : ECode P N (.region id ops true) s R Q := by
 intro a w W hn
 obtain ⟨h1, h2⟩ := hn.draw
 have := h (fun a' w' => Reach N w W R (Q .normal) a' w') { w with drawn := w.drawn + 1 } W a _ W h1.sep (.refl ..) h1 (fun _ _ _ _ _ => rfl) (Closed.start _ _ _) fun a' w' hr => hr.after h2
 refine wp_mono (wp_region_any hm (wpAny_of_J _ _ _ _ _ this)) ?_
 rintro e a' w' ⟨rfl, hr⟩
 exact hr
theorem G_drawB {id : Nat} {Q : Exit → Slots → List Res → Prop} (hm : P.follows .mixedOrders = true) (h : EAnyB P N ops R ops.size (Array.replicate ops.size false) s R (Q .normal)) : GCode P N n (.region id ops true) s R Q := G_E (E_drawB hm h)

theorem B_done (hr : Region.ready .any ops listed = []) (h : K s R) : EAnyB P N ops RB fuel listed s R K :=
 fun G wB WB a w W _ _ hn hb hc hq => wpAnyJ_done hr ⟨rfl, hq a w ⟨s, R, W, h, hn, .refl ..⟩⟩ fuel

theorem b_pure (i : Nat) {d : Nat} {o : Oper} {y : AV} (hi : ops[i]? = some o) (hw : want ops o s = some true) (hd : o.dst = some d) (hv : Pure P o s R y) (h : EAnyB P N ops RB fuel listed' ((d, y) :: s) R K)
  (hs : Region.noSelect ops = true := by kernel_rfl) (hf : Region.free .any ops listed i = true := by kernel_rfl) (hr : (Region.ready .any ops listed).contains i = true := by kernel_rfl) (hN : d < N := by decide) (hl : listed.setIfInBounds i true = listed' := by rfl) : EAnyB P N ops RB (fuel + 1) listed s R K := by
 subst hl
 intro G wB WB a w W hsB ht hn hb hc hq
 obtain ⟨v, hy, hrun⟩ := hv N a w W hn
 refine wpAnyJ_take0 hc hi hs hf hr (fun c a' w' hp => by cases hp.1) (v := v) (.inl ⟨want_real hn hw, fun w' _ => hrun w'⟩) hb ?_
 rw [hd]
 exact h G wB WB _ w W hsB ht (hn.put hN hy) hb (hc.step (by simpa using hr)) hq

theorem box_block {wB w : World} {WB W : Wit} (hsB : Sep wB WB RB) (ht : Trans wB WB RB w W R) (hs : Sep w W R) {j : Nat} {cs cs' : List AC} (h1 : RB[j]? = some (.box cs)) (h2 : R[j]? = some (.box cs')) (c : Nat) : WB.fs j c ↔ W.fs j c := by
 obtain ⟨b, arr, e, k1, k2, -, -⟩ := hsB.res j _ h1
 obtain ⟨b', arr', e', k1', k2', -, -⟩ := hs.res j _ h2
 have hg := ht.goes j
 rw [h1, h2] at hg
 have hg' : W.hs j = WB.hs j := hg
 rw [hg', k1] at k1'
 obtain rfl : b = b' := by cases k1'; rfl
 rw [k2 c, k2' c]

theorem b_load (i : Nat) {d ib off t : Nat} {o : Oper} {x : Operand} {y : AV} {cs cs' : List AC} (hi : ops[i]? = some o) (hw : want ops o s = some true) (hd : o.dst = some d) (ho : o.op = .load t x) (hx : ev s x = .c (.bp ib off)) (hy : ldv P R t (.c (.bp ib off)) = some y) (h : EAnyB P N ops RB fuel listed' ((d, y) :: s) R K)
  (h1 : RB[ib]? = some (.box cs) := by rfl) (h2 : R[ib]? = some (.box cs') := by rfl) (hnm : isMv o = false := by rfl) (hs : Region.noSelect ops = true := by kernel_rfl) (hf : Region.free .any ops listed i = true := by kernel_rfl) (hr : (Region.ready .any ops listed).contains i = true := by kernel_rfl) (hN : d < N := by decide) (hl : listed.setIfInBounds i true = listed' := by rfl) : EAnyB P N ops RB (fuel + 1) listed s R K := by
 subst hl
 intro G wB WB a w W hsB ht hn hb hc hq
 have hvx := hn.ev x
 rw [hx] at hvx
 obtain ⟨agg, n, b, oo, vs, g1, g2, g3, g4, g5, g6⟩ := ldv_cells hn.sep hvx hy
 have hblk : W.fs ib b := by
  obtain ⟨b', arr', e', k1', k2', -, -⟩ := hn.sep.res ib _ h2
  generalize a.eval x = vx at *
  cases hvx with
  | bp m1 m2 m3 _ =>
   obtain ⟨b2, e1, e2⟩ := m3 _ h2
   rw [e1] at k1'
   obtain rfl : b2 = b' := by cases k1'; rfl
   rw [g2] at e2
   obtain ⟨rfl, -⟩ : b = b2 ∧ True := by cases e2; exact ⟨rfl, trivial⟩
   exact (k2' b).2 rfl
 have hblkB : WB.fs ib b := (box_block hsB ht hn.sep h1 h2 b).2 hblk
 refine wpAnyJ_take hc hi hnm hs hf hr (fun c a' w' hp => by cases hp.1) (v := asV agg vs) (.inl ⟨want_real hn hw, fun w' hb' => ?_⟩) hb ?_
 ·have e : w'.heap[b]? = w.heap[b]? := (hb' ib _ h1 b hblkB).trans (hb ib _ h1 b hblkB).symm
  have h5' : ∀ j u, vs[j]? = some u → w'.cell? ⟨b, oo + j, none⟩ = some u := fun j u hj => by
   have := g5 j u hj
   simp only [World.cell?] at this ⊢
   rw [e]; exact this
  simp only [execOp, ho, Instr.loadAt, g2, Instr.sureAddr, Sem.run_bind, Sem.run_pure, Result.andThen_ok, run_loadVar_ g1 vs g3 g4 h5']
 ·rw [hd]
  exact h G wB WB _ w W hsB ht (hn.put hN g6) hb (hc.step (by simpa using hr)) hq

/-- Number i comes up. -/
def BStep (P : Program) (N : Nat) (ops : Array Oper) (i : Nat) (RB : List Res) (fuel : Nat) (listed : Array Bool) (s : Slots) (R : List Res) (K : Slots → List Res → Prop) : Prop :=
 ∀ (G : Act → World → Prop) (wB : World) (WB : Wit) a w W, Sep wB WB RB → Trans wB WB RB w W R → Now N s R a w W → BoxS RB WB wB w → Closed .any ops listed → i ∈ Region.ready .any ops listed → (∀ a' w', Reach N w W R K a' w' → G a' w') →
  wpOp P ops (fun ex a' w' => ex = .normal ∧ G a' w') i (fun a' w' => BoxS RB WB wB w' ∧ wpAnyJ P .any ops (fun ex a' w' => ex = .normal ∧ G a' w') fuel (fun w' => BoxS RB WB wB w') (listed.setIfInBounds i true) a' w') a w

theorem b_see (i : Nat) {d : Nat} {o : Oper} {y : AV} (hi : ops[i]? = some o) (hw : want ops o s = some true) (hd : o.dst = some d) (hv : Light P o s R y) (h : EAnyB P N ops RB fuel listed' ((d, y) :: s) R K) (hN : d < N := by decide) (hl : listed.setIfInBounds i true = listed' := by rfl) : BStep P N ops i RB fuel listed s R K := by
 subst hl
 intro G wB WB a w W hsB ht hn hb hc hj hq
 obtain ⟨v, hy, hrun⟩ := hv N a w W hn
 unfold wpOp
 simp only [hi, want_real hn hw, if_true]
 refine .inl ?_
 unfold Oper.wp
 rw [hrun w (Below.refl ..), Oper.upon_value, hd]
 exact ⟨hb, h G wB WB _ w W hsB ht (hn.put hN hy) hb (hc.step hj) hq⟩

theorem b_store (i : Nat) {ib j off tot t : Nat} {o : Oper} {x y : Operand} {ys : List AC} {R' : List Res} (hi : ops[i]? = some o) (hw : want ops o s = some true) (ho : o.op = .store t x y) (hd : o.dst = none)
  (hx : ev s x = .c (.ep ib j off tot)) (hys : cellsOf (ev s y) = some ys) (hR : stv P R t (.c (.ep ib j off tot)) ys = some R') (h : EAnyB P N ops RB fuel listed' s R' K) (hk : boxKeep RB R = true := by rfl) (hib : (match R[ib]? with | some (.row _ _ _) => true | _ => false) = true := by rfl) (hl : listed.setIfInBounds i true = listed' := by rfl) : BStep P N ops i RB fuel listed s R K := by
 subst hl
 intro G wB WB a w W hsB ht hn hb hc hj hq
 have hvx := hn.ev x
 rw [hx] at hvx
 obtain ⟨w', g1, g2, g3, b, g4, g5⟩ := stv_ep_run (P := P) hn.sep hvx (hn.ev y) hys hR
 have hb' : BoxS RB WB wB w' := fun q cs hq' c hc' => by
  obtain ⟨cs', hq2⟩ := boxKeep_at hk q cs hq'
  have hw' := (box_block hsB ht hn.sep hq' hq2 c).1 hc'
  refine (g5 c fun e => ?_).trans (hb q cs hq' c hc')
  subst e
  obtain rfl := hn.sep.apart _ _ _ hw' g4
  rw [hq2] at hib
  cases hib
 unfold wpOp
 simp only [hi, want_real hn hw, if_true]
 refine .inl ?_
 unfold Oper.wp
 have hrr : (execOp a.eval o).run P w = .ok .skip w' := by
  simp only [execOp, ho, Sem.run_bind, g1, Result.andThen_ok, Sem.run_pure]
 rw [hrr, Oper.upon_skip, hd]
 exact ⟨hb', h G wB WB a w' W hsB (ht.trans g2) (hn.next g2 g3) hb' (hc.step hj) fun a'' w'' hr' => hq a'' w'' (hr'.after g2)⟩

theorem B_one (i : Nat) (h : BStep P N ops i RB fuel listed s R K) (hr : Region.ready .any ops listed = [i] := by kernel_rfl) : EAnyB P N ops RB (fuel + 1) listed s R K := by
 intro G wB WB a w W hsB ht hn hb hc hq
 refine ⟨fun h0 => (by rw [hr] at h0; cases h0), fun k hk => ?_⟩
 have hk' := hk
 rw [hr] at hk'
 obtain rfl : k = i := by simpa using hk'
 exact wpOp_mono (fun a' w' h' => .inl h') (h G wB WB a w W hsB ht hn hb hc hk hq)

theorem B_two (i j : Nat) (h1 : BStep P N ops i RB fuel listed s R K) (h2 : BStep P N ops j RB fuel listed s R K) (hr : Region.ready .any ops listed = [i, j] := by kernel_rfl) : EAnyB P N ops RB (fuel + 1) listed s R K := by
 intro G wB WB a w W hsB ht hn hb hc hq
 refine ⟨fun h0 => (by rw [hr] at h0; cases h0), fun k hk => ?_⟩
 have hk' := hk
 rw [hr] at hk'
 rcases List.mem_cons.1 hk' with rfl | hk'
 ·exact wpOp_mono (fun a' w' h' => .inl h') (h1 G wB WB a w W hsB ht hn hb hc hk hq)
 ·obtain rfl : k = j := by simpa using hk'
  exact wpOp_mono (fun a' w' h' => .inl h') (h2 G wB WB a w W hsB ht hn hb hc hk hq)
end
end Go.Proofs.YthnadkagchbhbaaGreat.E

namespace Go.Proofs.YthnadkagchbhbaaGreat.E
open Go Go.RowKit
set_option linter.unusedVariables false
set_option linter.unusedSimpArgs false

theorem E_ghostS {P : Program} {N : Nat} {s : Slots} {R : List Res} {Q : Exit → Slots → List Res → Prop} {c : Code} (t e k : Nat) (ht : E.get s t = .c (.sc (.slice none 0 0))) (hk : 0 < k)
  (h : ECode P N c ((t, .c (.sl R.length 0 0 0)) :: s) (R ++ [Res.row e k []]) Q) : ECode P N c s R Q := by
 intro a w W hn
 obtain ⟨W1, t1, s1, q1⟩ := hn.sep.row (w' := w) (e := e) (k := k) (rows := []) (cells := []) (v := .slice none 0 0) rfl rfl rfl (Nat.le_refl _) (fun _ _ => rfl) hk (by simp) (World.ownsRow_nil w 0 e k) (fun b hb => by cases hb) (by exact (Ow.nil : Ow w [] [] _))
 have hn1 := hn.next t1 s1
 have hv : AVR W1 (R ++ [Res.row e k []]) w (.c (.sl R.length 0 0 0)) (.slice none 0 0) := by
  have := sl_whole (W' := W1) (R' := R ++ [.row e k []]) (w' := w) (i := R.length) (n := 0) (e := e) (k := k) (rows := []) (v := .slice none 0 0) (by simp) rfl q1 rfl s1
  exact this
 have hn2 : Now N ((t, .c (.sl R.length 0 0 0)) :: s) (R ++ [Res.row e k []]) a w W1 := by
  refine ⟨hn1.size, hn1.defers, fun t' => ?_, hn1.sep⟩
  simp only [E.get]
  split
  ·rename_i e'
   subst e'
   have hx := hn1.val t
   rw [ht] at hx
   have hx' : AR W1 (R ++ [Res.row e k []]) w [.sc (.slice none 0 0)] [_] := hx
   rw [AR.sc_inv hx']
   exact hv
  ·exact hn1.val t'
 have := h a w W1 hn2
 refine wp_mono this ?_
 rintro ex a' w' ⟨s', R', W', k1, k2, k3⟩
 exact ⟨s', R', W', k1, k2, t1.trans k3⟩
end Go.Proofs.YthnadkagchbhbaaGreat.E

namespace Go.Proofs.YthnadkagchbhbaaGreat.E
open Go Go.RowKit
set_option linter.unusedVariables false
set_option linter.unusedSimpArgs false
end Go.Proofs.YthnadkagchbhbaaGreat.E
