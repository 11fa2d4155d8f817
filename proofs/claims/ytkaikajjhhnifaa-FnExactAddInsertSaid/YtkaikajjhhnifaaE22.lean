/- Words of the session's own, twenty-second part: a region that draws its order, told against the world in which it began: what only reads what stood there may come up at any time. -/
import Derived.Test.YtkaikajjhhnifaaE21
namespace Go.Proofs.Ytkaikajjhhnifaa.E
open Go Go.RowKit
set_option linter.unusedVariables false
set_option linter.unusedSimpArgs false

/-- What of a value can be told of the world before. -/
def back1 : AV → AV
  | .c (.sc v) => .c (.sc v)
  | .tup [] => .tup []
  | _ => .any

theorem back1_rel {W W1 : Wit} {R R1 : List Res} {w w1 : World} {y : AV} {v : Value} (h : AVR W R w y v) : AVR W1 R1 w1 (back1 y) v := by
  unfold back1
  split
  · have h' : AR W R w [.sc _] [v] := h
    obtain rfl := AR.sc_inv h'
    cases h' with
    | sc h1 _ => exact AR.sc1 h1
  · obtain ⟨us, e, hl, _⟩ := h
    obtain rfl : us = [] := List.length_eq_zero_iff.1 hl
    exact ⟨[], e, rfl, fun i x u h => by simp at h⟩
  · exact AVR.any ..

/-! ### Whatever order is picked; the condition on the world may change behind an operation before or behind which all others have to come -/
section
variable {P : Program} {md : Region.Mode} {ops : Array Oper} {Q : Exit → Act → World → Prop}

/-- What has come up has all before it that has to be. -/
def Closed (md : Region.Mode) (ops : Array Oper) (listed : Array Bool) : Prop :=
  ∀ k o, ops[k]? = some o → listed.getD k false = true → ∀ e ∈ o.after, Region.binds md e = true → listed.getD e.on false = true

theorem Closed.start (md : Region.Mode) (ops : Array Oper) (n : Nat) : Closed md ops (Array.replicate n false) := fun k o _ h => by
  simp only [Array.getD_eq_getD_getElem?, Array.getElem?_replicate] at h
  split at h <;> simp at h

theorem getD_set_back {listed : Array Bool} {i k : Nat} (h : (listed.setIfInBounds i true).getD k false = true) : k = i ∨ listed.getD k false = true := by
  by_cases hk : i = k
  · exact .inl hk.symm
  · refine .inr ?_
    simpa [Array.getD_eq_getD_getElem?, Array.getElem?_setIfInBounds_ne hk] using h

theorem Closed.step {listed : Array Bool} {i : Nat} (h : Closed md ops listed) (hi : i ∈ Region.ready md ops listed) : Closed md ops (listed.setIfInBounds i true) := fun k o ho hk e he hb => by
  rcases getD_set_back hk with rfl | hk
  · obtain ⟨_, o', ho', hall⟩ := mem_ready.1 hi
    obtain rfl : o' = o := by rw [ho] at ho'; exact (Option.some.inj ho').symm
    exact getD_set_true (hall e he hb)
  · exact getD_set_true (h k o ho hk e he hb)

/-- Copies: what they yield hangs on no memory. -/
def isMv (o : Oper) : Bool := match o.op with | .move _ => true | .assign _ => true | .extract _ _ => true | .build _ _ => true | .fieldAddr _ _ _ => true | .indexAddr _ _ _ => true | .pick _ _ _ => true | .binOp _ _ _ _ _ => true | .unOp _ _ _ => true | .makeFunc _ _ _ => true | _ => false

def Dom (md : Region.Mode) (ops : Array Oper) (j : Nat) : Prop := ∀ listed, Closed md ops listed → j ∈ Region.ready md ops listed → ∀ i ∈ Region.ready md ops listed, i = j ∨ ∃ o, ops[i]? = some o ∧ isMv o = true

/-- Who has to come before j. -/
def befores (md : Region.Mode) (ops : Array Oper) : Nat → List Nat → List Nat
  | 0, l => l
  | k + 1, l => befores md ops k (if l.contains k then l ++ (match ops[k]? with | some o => (o.after.toList.filter (Region.binds md)).map (·.on) | none => []) else l)

def domB (md : Region.Mode) (ops : Array Oper) (j : Nat) : Bool :=
  let b := befores md ops (j + 1) [j]
  (List.range ops.size).all fun k => k == j || b.contains k || (befores md ops (k + 1) [k]).contains j || (match ops[k]? with | some o => isMv o | none => true)

theorem befores_listed {listed : Array Bool} {j : Nat} (hc : Closed md ops listed) (hj : j ∈ Region.ready md ops listed) : ∀ (n : Nat) (l : List Nat), (∀ m ∈ l, m = j ∨ listed.getD m false = true) → ∀ m ∈ befores md ops n l, m = j ∨ listed.getD m false = true
  | 0, l, h => h
  | k + 1, l, h => by
    refine befores_listed hc hj k _ ?_
    split
    · rename_i hk
      have hk' : k ∈ l := by simpa using hk
      intro m hm
      rcases List.mem_append.1 hm with hm | hm
      · exact h m hm
      · cases ho : ops[k]? with
        | none => rw [ho] at hm; simp at hm
        | some o =>
          rw [ho] at hm
          simp only [List.mem_map, List.mem_filter] at hm
          obtain ⟨e, ⟨he, hb⟩, rfl⟩ := hm
          have he' : e ∈ o.after := by simpa using he
          refine .inr ?_
          rcases h k hk' with rfl | hl
          · obtain ⟨_, o', ho', hall⟩ := mem_ready.1 hj
            obtain rfl : o' = o := by rw [ho] at ho'; exact (Option.some.inj ho').symm
            exact hall e he' hb
          · exact hc k o ho hl e he' hb
    · exact h

theorem ready_out {listed : Array Bool} {i : Nat} (hi : i ∈ Region.ready md ops listed) : listed.getD i false = false := by
  obtain ⟨h, _⟩ := mem_ready.1 hi
  simp only [Array.getD_eq_getD_getElem?] at h ⊢
  cases hx : listed[i]? with
  | none => rfl
  | some x => rw [hx] at h; exact h

theorem dom_of {j : Nat} (h : domB md ops j = true) : Dom md ops j := by
  intro listed hc hj i hi
  have hlt : i < ops.size := by
    obtain ⟨_, o, ho, _⟩ := mem_ready.1 hi
    exact (Array.getElem?_eq_some_iff.1 ho).1
  simp only [domB, List.all_eq_true, Bool.or_eq_true, List.mem_range, beq_iff_eq] at h
  rcases h i hlt with ((h | h) | h) | h
  · exact .inl h
  · have hm : i ∈ befores md ops (j + 1) [j] := by simpa using h
    rcases befores_listed hc hj (j + 1) [j] (fun m hm => .inl (by simpa using hm)) i hm with h | h
    · exact .inl h
    · rw [ready_out hi] at h; cases h
  · have hm : j ∈ befores md ops (i + 1) [i] := by simpa using h
    rcases befores_listed hc hi (i + 1) [i] (fun m hm => .inl (by simpa using hm)) j hm with h | h
    · exact .inl h.symm
    · rw [ready_out hj] at h; cases h
  · cases ho : ops[i]? with
    | none => rw [Array.getElem?_eq_none_iff] at ho; omega
    | some o => rw [ho] at h; exact .inr ⟨o, rfl, h⟩

def wpAnyJ (P : Program) (md : Region.Mode) (ops : Array Oper) (Q : Exit → Act → World → Prop) : Nat → (World → Prop) → Array Bool → Act → World → Prop
  | 0, _, listed, a, w => Region.ready md ops listed = [] ∧ Q .normal a w
  | fuel + 1, S, listed, a, w =>
    (Region.ready md ops listed = [] → Q .normal a w) ∧
    ∀ i ∈ Region.ready md ops listed, wpOp P ops Q i (fun a' w' => (S w' ∧ wpAnyJ P md ops Q fuel S (listed.setIfInBounds i true) a' w') ∨ (Dom md ops i ∧ ∃ S' : World → Prop, S' w' ∧ wpAnyJ P md ops Q fuel S' (listed.setIfInBounds i true) a' w')) a w

theorem wpAny_of_J : ∀ (fuel : Nat) (S : World → Prop) (listed : Array Bool) (a : Act) (w : World), wpAnyJ P md ops Q fuel S listed a w → wpAny P md ops Q fuel listed a w
  | 0, _, _, _, _, h => h
  | fuel + 1, _, _, _, _, h => ⟨h.1, fun i hi => wpOp_mono (fun a' w' h' => by
      rcases h' with h' | ⟨_, S', _, h'⟩
      · exact wpAny_of_J fuel _ _ a' w' h'.2
      · exact wpAny_of_J fuel _ _ a' w' h') (h.2 i hi)⟩

theorem wpAnyJ_first {S : World → Prop} {i : Nat} {oi : Oper} {v : Value} (hi : ops[i]? = some oi) (hsel : ∀ (j : Nat) (o : Oper) cs b, ops[j]? = some o → o.op ≠ .select cs b)
    (hnm : isMv oi = false) (hQ : ∀ c a w, Q (.panic c) (a.put oi.dst v) w → Q (.panic c) a w) :
    ∀ (fuel : Nat) (listed : Array Bool) (a : Act) (w : World), Closed md ops listed →
      (∀ j oj, ops[j]? = some oj → j ≠ i → listed.getD j true = false → (∀ e ∈ oj.after, Region.binds md e = true → e.on ≠ i) → oi.apart ops oj = true) →
      i ∈ Region.ready md ops listed → YieldsIf P ops S oi v a → S w →
      wpAnyJ P md ops Q fuel S (listed.setIfInBounds i true) (a.put oi.dst v) w → wpAnyJ P md ops Q (fuel + 1) S listed a w := by
  intro fuel
  induction fuel with
  | zero =>
    intro listed a w hc _ hr hy hS H
    refine ⟨fun h => (by rw [h] at hr; cases hr), fun j hj => ?_⟩
    by_cases hji : j = i
    · subst hji; exact hy.wpOp hi hS (.inl ⟨hS, H⟩)
    · have := ready_mono hj hji
      rw [H.1] at this
      cases this
  | succ fuel ih =>
    intro listed a w hc hfree hr hy hS H
    refine ⟨fun h => (by rw [h] at hr; cases hr), fun j hj => ?_⟩
    by_cases hji : j = i
    · subst hji; exact hy.wpOp hi hS (.inl ⟨hS, H⟩)
    · have h1 := H.2 j (ready_mono hj hji)
      obtain ⟨hjun, oj, hoj, hall⟩ := mem_ready.1 hj
      have hnot : ∀ e ∈ oj.after, Region.binds md e = true → e.on ≠ i := fun e he hb heq => by
        have h1 := hall e he hb
        rw [heq, ready_out hr] at h1
        cases h1
      have h2 := wpOp_putIf hoj (hfree j oj hoj hji hjun hnot) (fun cs b => hsel i oi cs b hi) (fun cs b => hsel j oj cs b hoj) hQ hy h1
      have hfree' : ∀ k ok, ops[k]? = some ok → k ≠ i → (listed.setIfInBounds j true).getD k true = false →
          (∀ e ∈ ok.after, Region.binds md e = true → e.on ≠ i) → oi.apart ops ok = true := fun k ok hk hki hun hno => by
        refine hfree k ok hk hki ?_ hno
        by_cases hjk : j = k
        · subst hjk; exact hjun
        · rw [getD_set_ne true hjk] at hun; exact hun
      refine wpOp_mono (fun a' w' h3 => ?_) h2
      obtain ⟨h4, h3⟩ := h3
      rcases h3 with ⟨h5, h6⟩ | ⟨hdom, _⟩
      · refine .inl ⟨h5, ih (listed.setIfInBounds j true) a' w' (hc.step hj) hfree' (ready_mono hr (Ne.symm hji)) h4 h5 ?_⟩
        rw [Array.setIfInBounds_comm _ _ hji]
        exact h6
      · rcases hdom listed hc hj i hr with h | ⟨o, ho, hm⟩
        · exact absurd h.symm hji
        · rw [hi] at ho; cases ho; rw [hnm] at hm; cases hm

theorem wpAnyJ_pure {i : Nat} {oi : Oper} {v : Value} (hi : ops[i]? = some oi) (hsel : ∀ (j : Nat) (o : Oper) cs b, ops[j]? = some o → o.op ≠ .select cs b)
    (hQ : ∀ c a w, Q (.panic c) (a.put oi.dst v) w → Q (.panic c) a w) :
    ∀ (fuel : Nat) (S : World → Prop) (listed : Array Bool) (a : Act) (w : World), Closed md ops listed →
      (∀ j oj, ops[j]? = some oj → j ≠ i → listed.getD j true = false → (∀ e ∈ oj.after, Region.binds md e = true → e.on ≠ i) → oi.apart ops oj = true) →
      i ∈ Region.ready md ops listed → YieldsIf P ops (fun _ => True) oi v a → S w →
      wpAnyJ P md ops Q fuel S (listed.setIfInBounds i true) (a.put oi.dst v) w → wpAnyJ P md ops Q (fuel + 1) S listed a w := by
  intro fuel
  induction fuel with
  | zero =>
    intro S listed a w hc _ hr hy hS H
    refine ⟨fun h => (by rw [h] at hr; cases hr), fun j hj => ?_⟩
    by_cases hji : j = i
    · subst hji; exact hy.wpOp hi trivial (.inl ⟨hS, H⟩)
    · have := ready_mono hj hji
      rw [H.1] at this
      cases this
  | succ fuel ih =>
    intro S listed a w hc hfree hr hy hS H
    refine ⟨fun h => (by rw [h] at hr; cases hr), fun j hj => ?_⟩
    by_cases hji : j = i
    · subst hji; exact hy.wpOp hi trivial (.inl ⟨hS, H⟩)
    · have h1 := H.2 j (ready_mono hj hji)
      obtain ⟨hjun, oj, hoj, hall⟩ := mem_ready.1 hj
      have hnot : ∀ e ∈ oj.after, Region.binds md e = true → e.on ≠ i := fun e he hb heq => by
        have h1 := hall e he hb
        rw [heq, ready_out hr] at h1
        cases h1
      have h2 := wpOp_putIf hoj (hfree j oj hoj hji hjun hnot) (fun cs b => hsel i oi cs b hi) (fun cs b => hsel j oj cs b hoj) hQ hy h1
      have hfree' : ∀ k ok, ops[k]? = some ok → k ≠ i → (listed.setIfInBounds j true).getD k true = false →
          (∀ e ∈ ok.after, Region.binds md e = true → e.on ≠ i) → oi.apart ops ok = true := fun k ok hk hki hun hno => by
        refine hfree k ok hk hki ?_ hno
        by_cases hjk : j = k
        · subst hjk; exact hjun
        · rw [getD_set_ne true hjk] at hun; exact hun
      refine wpOp_mono (fun a' w' h3 => ?_) h2
      obtain ⟨h4, h3⟩ := h3
      rcases h3 with ⟨h5, h6⟩ | ⟨hdom, S', h5, h6⟩
      · refine .inl ⟨h5, ih S (listed.setIfInBounds j true) a' w' (hc.step hj) hfree' (ready_mono hr (Ne.symm hji)) h4 h5 ?_⟩
        rw [Array.setIfInBounds_comm _ _ hji]
        exact h6
      · refine .inr ⟨hdom, S', h5, ih S' (listed.setIfInBounds j true) a' w' (hc.step hj) hfree' (ready_mono hr (Ne.symm hji)) h4 h5 ?_⟩
        rw [Array.setIfInBounds_comm _ _ hji]
        exact h6

theorem wpAnyJ_take0 {S : World → Prop} {i : Nat} {oi : Oper} {v : Value} {fuel : Nat} {listed : Array Bool} {a : Act} {w : World} (hc : Closed md ops listed) (hi : ops[i]? = some oi)
    (hs : Region.noSelect ops = true) (hf : Region.free md ops listed i = true) (hr : (Region.ready md ops listed).contains i = true)
    (hQ : ∀ c a w, Q (.panic c) (a.put oi.dst v) w → Q (.panic c) a w) (hy : YieldsIf P ops (fun _ => True) oi v a) (hS : S w)
    (h : wpAnyJ P md ops Q fuel S (listed.setIfInBounds i true) (a.put oi.dst v) w) : wpAnyJ P md ops Q (fuel + 1) S listed a w :=
  wpAnyJ_pure hi (Region.noSelect_spec hs) hQ fuel S listed a w hc (Region.free_spec hi hf) (by simpa using hr) hy hS h

theorem wpAnyJ_take {S : World → Prop} {i : Nat} {oi : Oper} {v : Value} {fuel : Nat} {listed : Array Bool} {a : Act} {w : World} (hc : Closed md ops listed) (hi : ops[i]? = some oi) (hnm : isMv oi = false)
    (hs : Region.noSelect ops = true) (hf : Region.free md ops listed i = true) (hr : (Region.ready md ops listed).contains i = true)
    (hQ : ∀ c a w, Q (.panic c) (a.put oi.dst v) w → Q (.panic c) a w) (hy : YieldsIf P ops S oi v a) (hS : S w)
    (h : wpAnyJ P md ops Q fuel S (listed.setIfInBounds i true) (a.put oi.dst v) w) : wpAnyJ P md ops Q (fuel + 1) S listed a w :=
  wpAnyJ_first hi (Region.noSelect_spec hs) hnm hQ fuel listed a w hc (Region.free_spec hi hf) (by simpa using hr) hy hS h

theorem wpAnyJ_done {S : World → Prop} {listed : Array Bool} {a : Act} {w : World} (hr : Region.ready md ops listed = []) (h : Q .normal a w) : ∀ fuel, wpAnyJ P md ops Q fuel S listed a w
  | 0 => ⟨hr, h⟩
  | _ + 1 => ⟨fun _ => h, by rw [hr]; simp⟩
end

/-- s1, R1: what is known of the region's beginning; s, R: of now. -/
def EAnyT (P : Program) (N : Nat) (ops : Array Oper) (s1 : Slots) (R1 : List Res) (fuel : Nat) (listed : Array Bool) (s : Slots) (R : List Res) (K : Slots → List Res → Prop) : Prop :=
  ∀ (G : Act → World → Prop) (w1 : World) (W1 : Wit) a w W, Now N s1 R1 a w1 W1 → Trans w1 W1 R1 w W R → Now N s R a w W → Below w1.heap.size w1 w → Closed .any ops listed → (∀ a' w', Reach N w W R K a' w' → G a' w') →
    wpAnyJ P .any ops (fun ex a' w' => ex = .normal ∧ G a' w') fuel (fun w' => Below w1.heap.size w1 w') listed a w

section
variable {P : Program} {N n : Nat} {ops : Array Oper} {s s1 : Slots} {R R1 : List Res} {K : Slots → List Res → Prop} {fuel : Nat} {listed listed' : Array Bool}

theorem E_drawT {id : Nat} {Q : Exit → Slots → List Res → Prop} (hm : P.follows .mixedOrders = true) (h : EAnyT P N ops s R ops.size (Array.replicate ops.size false) s R (Q .normal)) : ECode P N (.region id ops true) s R Q := by
  intro a w W hn
  obtain ⟨h1, h2⟩ := hn.draw
  have := h (fun a' w' => Reach N w W R (Q .normal) a' w') { w with drawn := w.drawn + 1 } W a _ W h1 (.refl ..) h1 (Below.refl _ _) (Closed.start _ _ _) fun a' w' hr => hr.after h2
  refine wp_mono (wp_region_any hm (wpAny_of_J _ _ _ _ _ this)) ?_
  rintro e a' w' ⟨rfl, hr⟩
  exact hr

theorem G_drawT {id : Nat} {Q : Exit → Slots → List Res → Prop} (hm : P.follows .mixedOrders = true) (h : EAnyT P N ops s R ops.size (Array.replicate ops.size false) s R (Q .normal)) : GCode P N n (.region id ops true) s R Q := G_E (E_drawT hm h)

theorem T_done (hr : Region.ready .any ops listed = []) (h : K s R) : EAnyT P N ops s1 R1 fuel listed s R K :=
  fun G w1 W1 a w W _ _ hn hb hc hq => wpAnyJ_done hr ⟨rfl, hq a w ⟨s, R, W, h, hn, .refl ..⟩⟩ fuel

theorem T_light {i d : Nat} {o : Oper} {y : AV} (hi : ops[i]? = some o) (hw : want ops o s = some true) (hs : Region.noSelect ops = true) (hf : Region.free .any ops listed i = true) (hr : (Region.ready .any ops listed).contains i = true)
    (hnm : isMv o = false) (hd : o.dst = some d) (hN : d < N) (hv : Light P o s1 R1 y) (hl : listed.setIfInBounds i true = listed') (h : EAnyT P N ops ((d, y) :: s1) R1 fuel listed' ((d, y) :: s) R K) : EAnyT P N ops s1 R1 (fuel + 1) listed s R K := by
  subst hl
  intro G w1 W1 a w W hn1 ht hn hb hc hq
  obtain ⟨v, hy, hrun⟩ := hv N a w1 W1 hn1
  refine wpAnyJ_take hc hi hnm hs hf hr (fun c a' w' hp => by cases hp.1) (v := v) (.inl ⟨want_real hn hw, fun w' hb' => hrun w' hb'⟩) hb ?_
  rw [hd]
  exact h G w1 W1 _ w W (hn1.put hN hy) ht (hn.put hN (hy.next ht)) hb (hc.step (by simpa using hr)) hq

theorem T_old {i d : Nat} {o : Oper} {y : AV} (hi : ops[i]? = some o) (hw : want ops o s = some true) (hs : Region.noSelect ops = true) (hf : Region.free .any ops listed i = true) (hr : (Region.ready .any ops listed).contains i = true)
    (hd : o.dst = some d) (hN : d < N) (hv : Pure P o s1 R1 y) (hl : listed.setIfInBounds i true = listed') (h : EAnyT P N ops ((d, y) :: s1) R1 fuel listed' ((d, y) :: s) R K) : EAnyT P N ops s1 R1 (fuel + 1) listed s R K := by
  subst hl
  intro G w1 W1 a w W hn1 ht hn hb hc hq
  obtain ⟨v, hy, hrun⟩ := hv N a w1 W1 hn1
  refine wpAnyJ_take0 hc hi hs hf hr (fun c a' w' hp => by cases hp.1) (v := v) (.inl ⟨want_real hn hw, fun w' _ => hrun w'⟩) hb ?_
  rw [hd]
  exact h G w1 W1 _ w W (hn1.put hN hy) ht (hn.put hN (hy.next ht)) hb (hc.step (by simpa using hr)) hq

theorem T_pure {i d : Nat} {o : Oper} {y : AV} (hi : ops[i]? = some o) (hw : want ops o s = some true) (hs : Region.noSelect ops = true) (hf : Region.free .any ops listed i = true) (hr : (Region.ready .any ops listed).contains i = true)
    (hd : o.dst = some d) (hN : d < N) (hv : Pure P o s R y) (hl : listed.setIfInBounds i true = listed') (h : EAnyT P N ops ((d, back1 y) :: s1) R1 fuel listed' ((d, y) :: s) R K) : EAnyT P N ops s1 R1 (fuel + 1) listed s R K := by
  subst hl
  intro G w1 W1 a w W hn1 ht hn hb hc hq
  obtain ⟨v, hy, hrun⟩ := hv N a w W hn
  refine wpAnyJ_take0 hc hi hs hf hr (fun c a' w' hp => by cases hp.1) (v := v) (.inl ⟨want_real hn hw, fun w' _ => hrun w'⟩) hb ?_
  rw [hd]
  exact h G w1 W1 _ w W (hn1.put hN (back1_rel hy)) ht (hn.put hN hy) hb (hc.step (by simpa using hr)) hq

theorem T_skip {i : Nat} {o : Oper} (hi : ops[i]? = some o) (hw : want ops o s = some false) (hs : Region.noSelect ops = true) (hf : Region.free .any ops listed i = true) (hr : (Region.ready .any ops listed).contains i = true)
    (hd : ∀ d, o.dst = some d → d < N) (hl : listed.setIfInBounds i true = listed') (h : EAnyT P N ops (fill s1 o.dst) R1 fuel listed' (fill s o.dst) R K) : EAnyT P N ops s1 R1 (fuel + 1) listed s R K := by
  subst hl
  intro G w1 W1 a w W hn1 ht hn hb hc hq
  refine wpAnyJ_take0 hc hi hs hf hr (fun c a' w' hp => by cases hp.1) (v := undef) (.inr ⟨want_real hn hw, rfl⟩) hb ?_
  refine h G w1 W1 _ w W ?_ ht ?_ hb (hc.step (by simpa using hr)) hq
  · cases hdd : o.dst with
    | none => exact hn1
    | some d => exact hn1.put (hd d hdd) (AVR.undef ..)
  · cases hdd : o.dst with
    | none => exact hn
    | some d => exact hn.put (hd d hdd) (AVR.undef ..)

theorem T_skip1 {i d : Nat} {o : Oper} (hi : ops[i]? = some o) (hw : want ops o s = some false) (hs : Region.noSelect ops = true) (hf : Region.free .any ops listed i = true) (hr : (Region.ready .any ops listed).contains i = true)
    (hd : o.dst = some d) (hN : d < N) (hl : listed.setIfInBounds i true = listed') (h : EAnyT P N ops ((d, .tup []) :: s1) R1 fuel listed' ((d, .tup []) :: s) R K) : EAnyT P N ops s1 R1 (fuel + 1) listed s R K :=
  T_skip hi hw hs hf hr (fun d' hd' => by rw [hd] at hd'; cases hd'; exact hN) hl (by rw [hd]; exact h)
theorem EOps_skip1 {i d : Nat} {rest : List Nat} {o : Oper} (ho : ops[i]? = some o) (hw : want ops o s = some false) (hd : o.dst = some d) (hN : d < N) (h : EOps P N ops rest ((d, .tup []) :: s) R K) : EOps P N ops (i :: rest) s R K :=
  EOps_skip ho hw (fun d' hd' => by rw [hd] at hd'; cases hd'; exact hN) (by rw [hd]; exact h)

theorem T_heavy {i d : Nat} {o : Oper} (hi : ops[i]? = some o) (hw : want ops o s = some true) (hr : Region.ready .any ops listed = [i]) (hd : o.dst = some d) (hN : d < N) (hl : listed.setIfInBounds i true = listed')
    (h : HeavyV P o s R fun y R' => EAnyT P N ops ((d, back1 y) :: s1) R1 fuel listed' ((d, y) :: s) R' K) : EAnyT P N ops s1 R1 (fuel + 1) listed s R K := by
  subst hl
  intro G w1 W1 a w W hn1 ht hn hb hc hq
  refine ⟨fun h0 => (by rw [hr] at h0; cases h0), fun j hj => ?_⟩
  have hc' := hc.step hj
  rw [hr] at hj
  obtain rfl : j = i := by simpa using hj
  unfold wpOp
  simp only [hi, want_real hn hw, if_true]
  refine .inl (Oper.wp_mono (fun a' w' hh => ?_) (h N _ a w W hn))
  obtain ⟨h1, y, R', W', v, h2, rfl, h3, h4, h5⟩ := hh
  have hb' : Below w1.heap.size w1 w' := hb.trans (h1.mono hb.size)
  rw [hd]
  exact .inl ⟨hb', h2 G w1 W1 _ w' W' (hn1.put hN (back1_rel h3)) (ht.trans h4) ((hn.next h4 h5).put hN h3) hb' hc' fun a'' w'' hr' => hq a'' w'' (hr'.after h4)⟩

/-- Number i, which may come up with others, comes up. -/
def TStep (P : Program) (N : Nat) (ops : Array Oper) (i : Nat) (s1 : Slots) (R1 : List Res) (fuel : Nat) (listed : Array Bool) (s : Slots) (R : List Res) (K : Slots → List Res → Prop) : Prop :=
  ∀ (G : Act → World → Prop) (w1 : World) (W1 : Wit) a w W, Now N s1 R1 a w1 W1 → Trans w1 W1 R1 w W R → Now N s R a w W → Below w1.heap.size w1 w → Closed .any ops listed → i ∈ Region.ready .any ops listed → (∀ a' w', Reach N w W R K a' w' → G a' w') →
    wpOp P ops (fun ex a' w' => ex = .normal ∧ G a' w') i (fun a' w' => (Below w1.heap.size w1 w' ∧ wpAnyJ P .any ops (fun ex a' w' => ex = .normal ∧ G a' w') fuel (fun w' => Below w1.heap.size w1 w') (listed.setIfInBounds i true) a' w') ∨ (Dom .any ops i ∧ ∃ S' : World → Prop, S' w' ∧ wpAnyJ P .any ops (fun ex a' w' => ex = .normal ∧ G a' w') fuel S' (listed.setIfInBounds i true) a' w')) a w

theorem S_heavy {i d : Nat} {o : Oper} (hi : ops[i]? = some o) (hw : want ops o s = some true) (hd : o.dst = some d) (hN : d < N) (hl : listed.setIfInBounds i true = listed')
    (h : HeavyV P o s R fun y R' => EAnyT P N ops ((d, back1 y) :: s1) R1 fuel listed' ((d, y) :: s) R' K) : TStep P N ops i s1 R1 fuel listed s R K := by
  subst hl
  intro G w1 W1 a w W hn1 ht hn hb hc hj hq
  have hc' := hc.step hj
  unfold wpOp
  simp only [hi, want_real hn hw, if_true]
  refine .inl (Oper.wp_mono (fun a' w' hh => ?_) (h N _ a w W hn))
  obtain ⟨h1, y, R', W', v, h2, rfl, h3, h4, h5⟩ := hh
  have hb' : Below w1.heap.size w1 w' := hb.trans (h1.mono hb.size)
  rw [hd]
  exact .inl ⟨hb', h2 G w1 W1 _ w' W' (hn1.put hN (back1_rel h3)) (ht.trans h4) ((hn.next h4 h5).put hN h3) hb' hc' fun a'' w'' hr' => hq a'' w'' (hr'.after h4)⟩

theorem T_two {i j : Nat} (hr : Region.ready .any ops listed = [i, j]) (h1 : TStep P N ops i s1 R1 fuel listed s R K) (h2 : TStep P N ops j s1 R1 fuel listed s R K) : EAnyT P N ops s1 R1 (fuel + 1) listed s R K := by
  intro G w1 W1 a w W hn1 ht hn hb hc hq
  refine ⟨fun h0 => (by rw [hr] at h0; cases h0), fun k hk => ?_⟩
  have hk' := hk
  rw [hr] at hk'
  rcases List.mem_cons.1 hk' with rfl | hk'
  · exact h1 G w1 W1 a w W hn1 ht hn hb hc hk hq
  · obtain rfl : k = j := by simpa using hk'
    exact h2 G w1 W1 a w W hn1 ht hn hb hc hk hq

theorem T_three {i j l : Nat} (hr : Region.ready .any ops listed = [i, j, l]) (h1 : TStep P N ops i s1 R1 fuel listed s R K) (h2 : TStep P N ops j s1 R1 fuel listed s R K) (h3 : TStep P N ops l s1 R1 fuel listed s R K) : EAnyT P N ops s1 R1 (fuel + 1) listed s R K := by
  intro G w1 W1 a w W hn1 ht hn hb hc hq
  refine ⟨fun h0 => (by rw [hr] at h0; cases h0), fun k hk => ?_⟩
  have hk' := hk
  rw [hr] at hk'
  rcases List.mem_cons.1 hk' with rfl | hk'
  · exact h1 G w1 W1 a w W hn1 ht hn hb hc hk hq
  · rcases List.mem_cons.1 hk' with rfl | hk'
    · exact h2 G w1 W1 a w W hn1 ht hn hb hc hk hq
    · obtain rfl : k = l := by simpa using hk'
      exact h3 G w1 W1 a w W hn1 ht hn hb hc hk hq

/-- An operation before or behind which all others have to come: whatever it turns, the region begins anew behind it. -/
theorem T_turn {i : Nat} {o : Oper} (hi : ops[i]? = some o) (hw : want ops o s = some true) (hr : Region.ready .any ops listed = [i]) (hd : domB .any ops i = true) (hl : listed.setIfInBounds i true = listed')
    (h : EOp P N o s R fun s' R' => EAnyT P N ops s' R' fuel listed' s' R' K) : EAnyT P N ops s1 R1 (fuel + 1) listed s R K := by
  subst hl
  intro G w1 W1 a w W hn1 ht hn hb hc hq
  refine ⟨fun h0 => (by rw [hr] at h0; cases h0), fun j hj => ?_⟩
  have hc' := hc.step hj
  rw [hr] at hj
  obtain rfl : j = i := by simpa using hj
  unfold wpOp
  simp only [hi, want_real hn hw, if_true]
  refine .inl (Oper.wp_mono (fun a' w' hh => ?_) (h _ a w W hn))
  obtain ⟨s', R', W', h2, h3, h4⟩ := hh
  exact .inr ⟨dom_of hd, fun w'' => Below w'.heap.size w' w'', Below.refl _ _, h2 G w' W' a' w' W' h3 (.refl ..) h3 (Below.refl _ _) hc' fun a'' w'' hr' => hq a'' w'' (hr'.after h4)⟩

theorem V_light {o : Oper} {d : Nat} {y : AV} {KV : AV → List Res → Prop} (hd : o.dst = some d) (hv : Light P o s R y) (h : KV y R) : HeavyV P o s R KV := by
  intro N Q a w W hn
  obtain ⟨v, hy, hr⟩ := hv N a w W hn
  unfold Oper.wp
  rw [hr w (Below.refl ..), Oper.upon_value]
  exact ⟨Below.refl _ _, y, R, W, v, h, rfl, hy, .refl .., hn.sep⟩

theorem V_pcall {o : Oper} {x : Operand} {args : Array Operand} {ats : Array TypeId} {f : FuncId} {args' : List AV} {Q : AV → List Res → Prop} {KV : AV → List Res → Prop} (ho : o.op = .call { callee := .value x, args := args, argTypes := ats }) (hx : ev s x = .c (.fn f [])) (hf : callable P f = true)
    (h0 : EFn P f args' [] Q) (ha : (args.toList.map (ev s)).map (E.lend R) = args') (hq : ∀ r S, Q r S → r.own = true ∧ S.all Res.own = true)
    (hk : ∀ r S, Q r S → KV (r.sh R.length) (R ++ S.map (Res.sh R.length))) : HeavyV P o s R KV := by
  have h : EFn P f ((args.toList.map (ev s)).map (E.lend R)) [] Q := ha ▸ h0
  intro N Q' a w W hn
  have hv := hn.ev x
  rw [hx] at hv
  obtain ⟨xs, e, h1⟩ := AR.fn_inv hv
  obtain rfl : xs = [] := by cases h1; rfl
  unfold Oper.wp
  have hr : (execOp a.eval o).run P w = .ok (.enter f (args.map a.eval)) w := by
    simp only [execOp, ho, resolve, e, Deferred.ofValue, Sem.run_bind, Sem.run_pure, Result.andThen_ok, invoke]
    simpa using run_callFunc hf _ w
  rw [hr, Oper.upon_enter]
  have hav : AVs W R w (args.toList.map (ev s)) (args.toList.map a.eval) := by
    refine ⟨by simp, fun i y v hy hu => ?_⟩
    rw [List.getElem?_map] at hy hu
    cases hi : args.toList[i]? with
    | none => rw [hi] at hy; cases hy
    | some z =>
      rw [hi] at hy hu
      obtain rfl : ev s z = y := by simpa using hy
      obtain rfl : a.eval z = v := by simpa using hu
      exact hn.ev z
  have hc := EFn.frame h hq w W _ hav hn.sep
  have hh : (args.toList.map a.eval).toArray = args.map a.eval := by
    apply Array.ext'; simp
  rw [hh] at hc
  refine hc.mono ?_
  rintro e' w' ⟨r, S, W', k1, ⟨v, rfl, k2⟩, k3, k4, k5⟩
  exact ⟨k5, _, _, W', v, hk r S k1, rfl, k2, k4, k3⟩

theorem Now.bool {a : Act} {w : World} {W : Wit} (hn : Now N s R a w W) {d : Nat} {b : Bool} (hd : E.get s d = .c (.sc (.bool b))) (c : Bool) (hc : b = c) : Now N ((d, .c (.sc (.bool c))) :: s) R a w W := by
  subst hc
  refine ⟨hn.size, hn.defers, fun t => ?_, hn.sep⟩
  simp only [E.get]
  split
  · rename_i e; subst e; rw [← hd]; exact hn.val d
  · exact hn.val t

/-- A truth value is looked at. -/
theorem T_split (d : Nat) {b : Bool} (hd : E.get s d = .c (.sc (.bool b))) (hd1 : E.get s1 d = .c (.sc (.bool b))) (h1 : b = true → EAnyT P N ops ((d, .c (.sc (.bool true))) :: s1) R1 fuel listed ((d, .c (.sc (.bool true))) :: s) R K)
    (h2 : b = false → EAnyT P N ops ((d, .c (.sc (.bool false))) :: s1) R1 fuel listed ((d, .c (.sc (.bool false))) :: s) R K) : EAnyT P N ops s1 R1 fuel listed s R K := by
  intro G w1 W1 a w W hn1 ht hn hb hc hq
  cases hbb : b with
  | true => exact h1 hbb G w1 W1 a w W (hn1.bool hd1 true hbb) ht (hn.bool hd true hbb) hb hc hq
  | false => exact h2 hbb G w1 W1 a w W (hn1.bool hd1 false hbb) ht (hn.bool hd false hbb) hb hc hq

end
end Go.Proofs.Ytkaikajjhhnifaa.E
