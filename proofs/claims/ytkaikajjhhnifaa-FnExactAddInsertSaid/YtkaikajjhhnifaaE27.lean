/- Words of the session's own, twenty-seventh part: all orders of calls that come one behind the other and of things made beside them. -/
import Derived.Test.YtkaikajjhhnifaaE26
namespace Go.Proofs.Ytkaikajjhhnifaa.E
open Go Go.RowKit
set_option linter.unusedVariables false
set_option linter.unusedSimpArgs false

inductive MRun (P : Program) (N : Nat) (ops : Array Oper) (md : List Nat) (KF : Slots → List Res → Prop) : List (Nat × Bool) → Slots → List Res → Prop
  | done {s : Slots} {R : List Res} : KF s R → MRun P N ops md KF [] s R
  | pure {i d : Nat} {o : Oper} {y : AV} {ms : List (Nat × Bool)} {s : Slots} {R : List Res} : ops[i]? = some o → want ops o s = some true → o.dst = some d → d < N → d ∈ md → Pure P o s R y → y.own = true → MRun P N ops md KF ms ((d, y) :: s) R → MRun P N ops md KF ((i, true) :: ms) s R
  | call {i d : Nat} {o : Oper} {Q : AV → List Res → Prop} {ms : List (Nat × Bool)} {s : Slots} {R : List Res} : ops[i]? = some o → want ops o s = some true → o.dst = some d → d < N → d ∈ md → FOp P N o s R Q →
      (∀ r S, Q r S → MRun P N ops md KF ms ((d, r.sh R.length) :: s) (R ++ S.map (Res.sh R.length))) → MRun P N ops md KF ((i, false) :: ms) s R

def mDep1 (ops : Array Oper) (L0 : Array Bool) (prev : List (Nat × Bool)) (m : Nat × Bool) : Bool :=
  (((afters ops m.1).all fun k => L0.getD k false || prev.any fun p => p.1 == k) && ((!prev.any fun p => p.1 == m.1) && prev.all fun p => p.2 || (befores .any ops (m.1 + 1) [m.1]).contains p.1)) && (!m.2 || Region.free .any ops (markAll L0 (prev.map Prod.fst)) m.1)
def mDeps (ops : Array Oper) (L0 : Array Bool) : List (Nat × Bool) → List (Nat × Bool) → Bool
  | _, [] => true
  | prev, m :: ms => mDep1 ops L0 prev m && mDeps ops L0 (prev ++ [m]) ms
def mOne (ops : Array Oper) (L0 : Array Bool) (C : List Chn) (m : Nat × Bool) : Bool :=
  (decide (m.1 < ops.size) && (decide (m.1 < L0.size) && !L0.getD m.1 false)) && (C.all fun c => !c.nums.contains m.1)
def mChk (ops : Array Oper) (L0 : Array Bool) (ms : List (Nat × Bool)) (C : List Chn) : Bool :=
  (Region.noSelect ops && (ms.all (mOne ops L0 C) && mDeps ops L0 [] ms)) && ((C.all (chOk1 ops L0) && chAll ops L0 [] C) &&
  (List.range ops.size).all fun k => L0.getD k false || ((ms.any fun m => m.1 == k) || ((C.any fun c => c.nums.contains k) || ((C.all fun c => (befores .any ops (k + 1) [k]).contains c.num) && ms.all fun m => m.2 || (befores .any ops (k + 1) [k]).contains m.1))))

theorem mDeps_at {ops : Array Oper} {L0 : Array Bool} : ∀ (pre prev : List (Nat × Bool)) (m : Nat × Bool) (post : List (Nat × Bool)), mDeps ops L0 prev (pre ++ m :: post) = true → mDep1 ops L0 (prev ++ pre) m = true
  | [], prev, m, post, h => by simp only [List.nil_append, mDeps, Bool.and_eq_true] at h; simpa using h.1
  | q :: pre, prev, m, post, h => by
    simp only [List.cons_append, mDeps, Bool.and_eq_true] at h
    have := mDeps_at pre _ m post h.2
    simpa using this

section
variable {P : Program} {N : Nat} {ops : Array Oper} {sB : Slots} {RB : List Res} {WB : Wit} {a0 : Act} {w0 : World} {L0 : Array Bool} {ed : List Nat}

theorem seen_num {x : It} {k : Nat} (h : x.st.seen x.c k) : k ∈ x.c.nums := by
  cases hs : x.st with
  | no => rw [hs] at h; exact h.elim
  | mid g => rw [hs] at h; obtain ⟨d, e⟩ := h; simp [Chn.nums, e]
  | done r S V v => rw [hs] at h; exact h

theorem MInv.unseen {l : List It} {dn : List Nat} {D : Slots} {U : List Res} {W : Wit} {listed : Array Bool} {a : Act} {w : World} (h : MInv P N ops sB RB WB a0 w0 L0 ed l dn D U W listed a w) {x : It} (hx : x ∈ l) {k : Nat} (hk : k ∈ x.c.nums) (h0 : L0.getD k false = false) (hdn : k ∉ dn) (hns : ¬ x.st.seen x.c k) : listed.getD k false = false := by
  rw [Bool.eq_false_iff]
  intro hl
  rcases (h.list k).1 hl with h3 | h3 | ⟨y, hy, h3⟩
  · rw [h0] at h3; cases h3
  · exact hdn h3
  · have hky := seen_num h3
    by_cases e : y = x
    · subst e; exact hns h3
    · have hp := h.apart
      have : Apart x y ∨ Apart y x := by
        rw [List.pairwise_iff_getElem] at hp
        obtain ⟨i, hi, rfl⟩ := List.mem_iff_getElem.1 hx
        obtain ⟨j, hj, rfl⟩ := List.mem_iff_getElem.1 hy
        rcases Nat.lt_trichotomy i j with h' | h' | h'
        · exact .inl (hp i j hi hj h')
        · subst h'; exact absurd rfl e
        · exact .inr (hp j i hj hi h')
      rcases this with h' | h'
      · exact h'.1 k hk hky
      · exact h'.1 k hky hk

theorem MInv.next {l1 l2 : List It} {x : It} {dn : List Nat} {D : Slots} {U : List Res} {W : Wit} {listed : Array Bool} {a : Act} {w : World} (h : MInv P N ops sB RB WB a0 w0 L0 ed (l1 ++ x :: l2) dn D U W listed a w) (hc : chOk1 ops L0 x.c = true) (hd : chD ops L0 ((l1.map It.c).flatMap Chn.nums) x.c = true)
    (ho : ∀ y ∈ l1, y.over) (hn : ¬ x.over) (hdn : ∀ k ∈ x.c.nums, k ∉ dn) : ∃ i, i ∈ Region.ready .any ops listed := by
  have hx : x ∈ l1 ++ x :: l2 := by simp
  simp only [chOk1, Bool.and_eq_true, List.all_eq_true, decide_eq_true_eq, Bool.not_eq_true'] at hc
  obtain ⟨h1, h2⟩ := hc
  have un : ∀ k ∈ x.c.nums, ¬ x.st.seen x.c k → listed.getD k false = false := fun k hk hns => h.unseen hx hk (h1 k hk).2.2 (hdn k hk) hns
  have hL : ∀ k, (L0.getD k false || ((l1.map It.c).flatMap Chn.nums).contains k) = true → listed.getD k false = true := fun k hk => by
    rw [Bool.or_eq_true] at hk
    rcases hk with hk | hk
    · exact (h.list k).2 (.inl hk)
    · rw [List.contains_iff_mem] at hk
      obtain ⟨c, hc, hk⟩ := List.mem_flatMap.1 hk
      obtain ⟨y, hy, rfl⟩ := List.mem_map.1 hc
      obtain ⟨r, S, V, v, e⟩ := ho y hy
      exact (h.list k).2 (.inr (.inr ⟨y, by simp [hy], by rw [e]; exact hk⟩))
  unfold chD at hd
  cases hm : x.c.mid with
  | none =>
    rw [hm] at hd
    simp only [List.all_eq_true] at hd
    cases hs : x.st with
    | no =>
      have hk := num_mem x.c
      exact ⟨x.c.num, ready_iff.2 ⟨⟨by rw [h.size]; exact (h1 _ hk).2.1, un _ hk (by rw [hs]; exact fun h => h)⟩, (h1 _ hk).1, fun k hk' => hL k (hd k hk')⟩⟩
    | mid g =>
      have := h.ok x hx
      rw [hs] at this
      obtain ⟨⟨i, d, e, _⟩, _⟩ := this
      rw [hm] at e; cases e
    | done r S V v => exact absurd ⟨r, S, V, v, hs⟩ hn
  | some m =>
    rw [hm] at hd h2
    simp only [Bool.and_eq_true, List.all_eq_true, bne_iff_ne] at hd h2
    obtain ⟨h4, h6⟩ := hd
    have h3 := h2.1
    have hk := num_mem x.c
    have hk0 : m.1 ∈ x.c.nums := by simp [Chn.nums, hm]
    cases hs : x.st with
    | no => exact ⟨m.1, ready_iff.2 ⟨⟨by rw [h.size]; exact (h1 _ hk0).2.1, un _ hk0 (by rw [hs]; exact fun h => h)⟩, (h1 _ hk0).1, fun k hk' => hL k (h4 k hk')⟩⟩
    | mid g =>
      refine ⟨x.c.num, ready_iff.2 ⟨⟨by rw [h.size]; exact (h1 _ hk).2.1, un _ hk (by rw [hs]; rintro ⟨d, e⟩; rw [hm] at e; cases e; exact h3 rfl)⟩, (h1 _ hk).1, fun k hk' => ?_⟩⟩
      have h7 := h6 k hk'
      rw [Bool.or_eq_true, beq_iff_eq] at h7
      rcases h7 with rfl | h7
      · exact (h.list _).2 (.inr (.inr ⟨x, hx, by rw [hs]; exact ⟨m.2, hm⟩⟩))
      · exact hL k h7
    | done r S V v => exact absurd ⟨r, S, V, v, hs⟩ hn

/-- A chain's operation comes up. -/
theorem float_wp {G : Act → World → Prop} {fuel n : Nat} {Sx : World → Prop} {C : List Chn} (hc1 : ∀ c ∈ C, chOk1 ops L0 c = true) {l : List It} {dn : List Nat} {D : Slots} {U : List Res} {W : Wit} {listed : Array Bool} {a : Act} {w : World} (h : MInv P N ops sB RB WB a0 w0 L0 ed l dn D U W listed a w)
    (hS : ∀ w, Below w0.heap.size w0 w → Sx w) (hlC : ∀ x ∈ l, x.c ∈ C) {i : Nat} (hi : i ∈ Region.ready .any ops listed) {x : It} (hx : x ∈ l) (hix : i ∈ x.c.nums) (hdn : ∀ k ∈ x.c.nums, k ∉ dn) (hn : todo l = n + 1)
    (ih : ∀ (l' : List It) (d : Nat) (v : Value) (w' : World), l'.map (fun x : It => (x.c, x.Q)) = l.map (fun x : It => (x.c, x.Q)) → todo l' = n → MInv P N ops sB RB WB a0 w0 L0 ed l' dn D U W (listed.setIfInBounds i true) (a.put (some d) v) w' → wpAnyJ P .any ops (fun ex a' w' => ex = .normal ∧ G a' w') fuel Sx (listed.setIfInBounds i true) (a.put (some d) v) w') :
    wpOp P ops (fun ex a' w' => ex = .normal ∧ G a' w') i (fun a' w' => (Sx w' ∧ wpAnyJ P .any ops (fun ex a' w' => ex = .normal ∧ G a' w') fuel Sx (listed.setIfInBounds i true) a' w') ∨ (Dom .any ops i ∧ ∃ S' : World → Prop, S' w' ∧ wpAnyJ P .any ops (fun ex a' w' => ex = .normal ∧ G a' w') fuel S' (listed.setIfInBounds i true) a' w')) a w := by
  have hr := ready_iff.1 hi
  have hil : i < listed.size := hr.1.1
  have hnl := hr.1.2
  have hnd : ¬ x.over := fun ⟨r, S, V, v, e⟩ => by
    have := (h.list i).2 (.inr (.inr ⟨x, hx, by rw [e]; exact hix⟩))
    rw [hnl] at this; cases this
  have hok := h.ok x hx
  have hcan := h.can x hx
  have hnow := h.start
  have hcm := hc1 _ (hlC x hx)
  obtain ⟨c, Qc, st⟩ := x
  obtain ⟨l1, l2, rfl⟩ := List.append_of_mem hx
  rw [todo_split] at hn
  have hgo : ∀ (st' : St), todo (l1 ++ ⟨c, Qc, st'⟩ :: l2) = n → ∀ (d : Nat) (v : Value) (w' : World), MInv P N ops sB RB WB a0 w0 L0 ed (l1 ++ ⟨c, Qc, st'⟩ :: l2) dn D U W (listed.setIfInBounds i true) (a.put (some d) v) w' →
      wpAnyJ P .any ops (fun ex a' w' => ex = .normal ∧ G a' w') fuel Sx (listed.setIfInBounds i true) (a.put (some d) v) w' := fun st' h1 d v w' h2 => ih _ d v w' (by simp) h1 h2
  unfold wpOp
  cases hcan with
  | @one j d e o _ h1 h2 h3 h4 h5 =>
    have hij : i = j := by simpa [Chn.nums] using hix
    subst hij
    cases st with
    | mid g => obtain ⟨⟨_, _, e', _⟩, _⟩ := hok; cases e'
    | done r S V v => exact absurd ⟨r, S, V, v, rfl⟩ hnd
    | no =>
      simp only [h1, want_real hnow h2, if_true]
      refine .inl (Oper.wp_mono (fun a' w' hh => ?_) (h5 _ a w WB hnow))
      obtain ⟨hb, r, S, V, v, k1, k2, k3, rfl, k4, k5, k6⟩ := hh
      rw [h3]
      refine .inl ⟨hS _ (h.below.trans (hb.mono h.below.size)), hgo (.done r S V v) (by rw [todo_split]; simp [St.left, Chn.nums] at hn ⊢; omega) d v w' ?_⟩
      refine h.float (x := ⟨_, Qc, .no⟩) (st' := .done r S V v) hi hil (by simp [Chn.dsts]) h4 hb ⟨k1, k2, k3, k4, k5, put_getD_self h4 h.now.size⟩ (fun b hb' => ?_) (fun k => ?_)
      · obtain ⟨q, hq⟩ := hb'
        exact ⟨.inr (k6 q b hq), k5.lt q b hq⟩
      · simp [St.seen, Chn.nums]
  | @two im dm j d e o om _ h1 h2 h3 h4 h5 h6 h7 h8 h9 h10 =>
    simp only [chOk1, Bool.and_eq_true, List.all_eq_true, bne_iff_ne, Bool.or_eq_true, beq_iff_eq, List.contains_iff_mem] at hcm
    obtain ⟨hcm1, hne, hcm3⟩ := hcm
    cases st with
    | done r S V v => exact absurd ⟨r, S, V, v, rfl⟩ hnd
    | no =>
      have hii : i = im := by
        have : i = im ∨ i = j := by simpa [Chn.nums] using hix
        rcases this with h' | h'
        · exact h'
        · subst h'
          have := hr.2.2 im hcm3
          have hz := hcm1 im (by simp [Chn.nums])
          simp only [decide_eq_true_eq, Bool.not_eq_true'] at hz
          rw [h.unseen hx (k := im) (by simp [Chn.nums]) hz.2.2 (hdn im (by simp [Chn.nums])) (fun h => h)] at this
          cases this
      subst hii
      simp only [h1, want_real hnow h2, if_true]
      refine .inl (Oper.wp_mono (fun a' w' hh => ?_) (h5 _ a w))
      obtain ⟨rfl, rfl⟩ := hh
      rw [h3]
      have hb : Below w.heap.size w (w.alloc (.cells #[] e)) := ⟨rfl, rfl, rfl, by simp, fun b hb' => heap_alloc_lt w _ b hb'⟩
      refine .inl ⟨hS _ (h.below.trans (hb.mono h.below.size)), hgo (.mid w.heap.size) (by rw [todo_split]; simp [St.left, Chn.nums] at hn ⊢; omega) dm _ _ ?_⟩
      refine h.float (x := ⟨_, Qc, .no⟩) (st' := .mid w.heap.size) hi hil (by simp [Chn.dsts]) h4 hb ⟨⟨i, dm, rfl, put_getD_self h4 h.now.size⟩, heap_alloc_self ..⟩ (fun b hb' => ?_) (fun k => ?_)
      · have : b = w.heap.size := hb'
        subst this
        exact ⟨.inr (Nat.le_refl _), by simp⟩
      · simp [St.seen, eq_comm]
    | mid g =>
      have hii : i = j := by
        have : i = im ∨ i = j := by simpa [Chn.nums] using hix
        rcases this with h' | h'
        · subst h'
          have := (h.list i).2 (.inr (.inr ⟨_, hx, ⟨dm, rfl⟩⟩))
          rw [hnl] at this; cases this
        · exact h'
      subst hii
      obtain ⟨⟨i', d', e1, e2⟩, e3⟩ := hok
      obtain ⟨rfl, rfl⟩ : im = i' ∧ dm = d' := by cases e1; exact ⟨rfl, rfl⟩
      simp only [h6, want_real hnow h7, if_true]
      refine .inl (Oper.wp_mono (fun a' w' hh => ?_) (h10 _ a w WB g hnow e2 e3))
      obtain ⟨hb, r, S, V, v, k1, k2, k3, rfl, k4, k5, k6⟩ := hh
      rw [h8]
      refine .inl ⟨hS _ (h.below.trans (hb.mono h.below.size)), hgo (.done r S V v) (by rw [todo_split]; simp [St.left] at hn ⊢; omega) d v w' ?_⟩
      refine h.float (x := ⟨_, Qc, .mid g⟩) (st' := .done r S V v) hi hil (by simp [Chn.dsts]) h9 hb ⟨k1, k2, k3, k4, k5, put_getD_self h9 h.now.size⟩ (fun b hb' => ?_) (fun k => ?_)
      · obtain ⟨q, hq⟩ := hb'
        exact ⟨k6 q b hq, k5.lt q b hq⟩
      · simp [St.seen, Chn.nums, eq_comm]

theorem main_wp {G : Act → World → Prop} {f : Nat} {Sx : World → Prop} {CQ : List (Chn × (AV → List Res → Prop))} {ms : List (Nat × Bool)} {md : List Nat} {KF : Slots → List Res → Prop} (hS : ∀ w, Below w0.heap.size w0 w → Sx w) (hchk : mChk ops L0 ms (CQ.map Prod.fst) = true)
    (hmd : ∀ d ∈ md, d ∈ ed ∧ ∀ x ∈ CQ, d ∉ x.1.dsts)
    (hdone : ∀ l D U W listed a w, l.map (fun x : It => (x.c, x.Q)) = CQ → (∀ x ∈ l, x.over) → MInv P N ops sB RB WB a0 w0 L0 ed l (ms.map Prod.fst).reverse D U W listed a w → KF (D ++ sB) (RB ++ U) → wpAnyJ P .any ops (fun ex a' w' => ex = .normal ∧ G a' w') f Sx listed a w) :
    ∀ (n : Nat) (pre is : List (Nat × Bool)) (l : List It) (D : Slots) (U : List Res) (W : Wit) (listed : Array Bool) (a : Act) (w : World), ms = pre ++ is → n = is.length + todo l → l.map (fun x : It => (x.c, x.Q)) = CQ → MInv P N ops sB RB WB a0 w0 L0 ed l (pre.map Prod.fst).reverse D U W listed a w →
      MRun P N ops md KF is (D ++ sB) (RB ++ U) → wpAnyJ P .any ops (fun ex a' w' => ex = .normal ∧ G a' w') (f + n) Sx listed a w := by
  intro n
  induction n with
  | zero =>
    intro pre is l D U W listed a w hms hn hl h hrun
    have his : is = [] := List.eq_nil_of_length_eq_zero (by omega)
    subst his
    rw [List.append_nil] at hms
    subst hms
    cases hrun with
    | done hk =>
      refine hdone l D U W listed a w hl (fun x hx => ?_) h hk
      obtain ⟨l1, l2, rfl⟩ := List.append_of_mem hx
      rw [todo_split] at hn
      exact over_of_left (by omega)
  | succ n ih =>
    intro pre is l D U W listed a w hms hn hl h hrun
    have hC : CQ.map Prod.fst = l.map It.c := by rw [← hl, List.map_map]; rfl
    have hchk' := hchk
    rw [hC] at hchk
    simp only [mChk, Bool.and_eq_true, List.all_eq_true] at hchk
    obtain ⟨⟨c0, c1, c2⟩, ⟨c3, c4⟩, c5⟩ := hchk
    have hm1 : ∀ m ∈ ms, (m.1 < ops.size ∧ m.1 < L0.size ∧ L0.getD m.1 false = false) ∧ (∀ x ∈ l, m.1 ∉ x.c.nums) := fun m hm => by
      have := c1 m hm
      simp only [mOne, Bool.and_eq_true, decide_eq_true_eq, Bool.not_eq_true', List.all_eq_true, List.mem_map, Bool.or_eq_true] at this
      obtain ⟨h1, h2⟩ := this
      refine ⟨h1, fun x hx hk => ?_⟩
      have := h2 x.c ⟨x, hx, rfl⟩; simp at this; exact this hk
    have hdn : ∀ k, k ∈ (pre.map Prod.fst).reverse ↔ ∃ p ∈ pre, p.1 = k := fun k => by simp
    have hpm : ∀ p ∈ pre, p ∈ ms := fun p hp => by rw [hms]; simp [hp]
    have hxdn : ∀ x ∈ l, ∀ k ∈ x.c.nums, k ∉ (pre.map Prod.fst).reverse := fun x hx k hk hk' => by
      obtain ⟨p, hp, rfl⟩ := (hdn k).1 hk'
      exact (hm1 p (hpm p hp)).2 x hx hk
    -- what the next of one's own is
    have hdep : ∀ m is', is = m :: is' → m.1 ∈ Region.ready .any ops listed ∧ mDep1 ops L0 pre m = true := fun m is' e => by
      subst e
      have hd := mDeps_at pre [] m is' (by rw [← hms]; exact c2)
      rw [List.nil_append] at hd
      have hmm : m ∈ ms := by rw [hms]; simp
      obtain ⟨⟨g1, g2, g3⟩, g4⟩ := hm1 m hmm
      have hd' := hd
      simp only [mDep1, Bool.and_eq_true, List.all_eq_true, Bool.or_eq_true, List.any_eq_true, beq_iff_eq, Bool.not_eq_true'] at hd'
      obtain ⟨⟨d1, d2, d3⟩, _⟩ := hd'
      refine ⟨ready_iff.2 ⟨⟨by rw [h.size]; exact g2, ?_⟩, g1, fun k hk => ?_⟩, hd⟩
      · rw [Bool.eq_false_iff]
        intro hl'
        rcases (h.list m.1).1 hl' with h3 | h3 | ⟨y, hy, h3⟩
        · rw [g3] at h3; cases h3
        · obtain ⟨p, hp, e⟩ := (hdn _).1 h3
          rw [List.any_eq_false] at d2
          exact d2 p hp (by simp [e])
        · exact g4 y hy (seen_num h3)
      · rcases d1 k hk with h3 | ⟨p, hp, e⟩
        · exact (h.list k).2 (.inl h3)
        · exact (h.list k).2 (.inr (.inl ((hdn k).2 ⟨p, hp, e⟩)))
    have hlC : ∀ x ∈ l, x.c ∈ l.map It.c := fun x hx => List.mem_map_of_mem hx
    -- whoever comes up, unless one's own next is a value alone
    have heavy : (∀ m is', is = m :: is' → m.2 = false) → (∀ m is', is = m :: is' → ∀ (j : Nat), j = m.1 → wpOp P ops (fun ex a' w' => ex = .normal ∧ G a' w') j (fun a' w' => (Sx w' ∧ wpAnyJ P .any ops (fun ex a' w' => ex = .normal ∧ G a' w') (f + n) Sx (listed.setIfInBounds j true) a' w') ∨ (Dom .any ops j ∧ ∃ S' : World → Prop, S' w' ∧ wpAnyJ P .any ops (fun ex a' w' => ex = .normal ∧ G a' w') (f + n) S' (listed.setIfInBounds j true) a' w')) a w) →
        wpAnyJ P .any ops (fun ex a' w' => ex = .normal ∧ G a' w') (f + n + 1) Sx listed a w := fun hhv hown => by
      have hfl : ∀ j ∈ Region.ready .any ops listed, ∀ x ∈ l, j ∈ x.c.nums → wpOp P ops (fun ex a' w' => ex = .normal ∧ G a' w') j (fun a' w' => (Sx w' ∧ wpAnyJ P .any ops (fun ex a' w' => ex = .normal ∧ G a' w') (f + n) Sx (listed.setIfInBounds j true) a' w') ∨ (Dom .any ops j ∧ ∃ S' : World → Prop, S' w' ∧ wpAnyJ P .any ops (fun ex a' w' => ex = .normal ∧ G a' w') (f + n) S' (listed.setIfInBounds j true) a' w')) a w := fun j hj x hx hjx => by
        have hnov : ¬ x.over := fun ⟨r, S, V, v, e⟩ => by
          have := (h.list j).2 (.inr (.inr ⟨x, hx, by rw [e]; exact hjx⟩))
          rw [(ready_iff.1 hj).1.2] at this; cases this
        have hpos : 0 < todo l := by
          obtain ⟨l1, l2, rfl⟩ := List.append_of_mem hx
          rw [todo_split]
          rcases Nat.eq_zero_or_pos (x.st.left x.c) with h0 | h0
          · exact absurd (over_of_left h0) hnov
          · omega
        refine float_wp (C := l.map It.c) (n := todo l - 1) c3 h hS hlC hj hx hjx (hxdn x hx) (by omega) (fun l' d v w' h1 h2 h3 => ?_)
        exact ih pre is l' D U W _ _ w' hms (by omega) (h1.trans hl) h3 hrun
      refine ⟨fun h0 => ?_, fun j hj => ?_⟩
      · exfalso
        cases his : is with
        | cons m is' =>
          have := (hdep m is' his).1
          rw [h0] at this; cases this
        | nil =>
          rw [his] at hn
          have hex : ∃ x ∈ l, ¬ x.over := Classical.byContradiction fun hno => by
            have hz : ∀ (m : List It), (∀ x ∈ m, x.over) → todo m = 0 := fun m => by
              induction m with
              | nil => intro _; rfl
              | cons y m ih =>
                intro hy
                obtain ⟨r, S, V, v, e⟩ := hy y (List.mem_cons_self ..)
                have := ih fun z hz => hy z (List.mem_cons_of_mem _ hz)
                have hz : y.st.left y.c = 0 := by rw [e]; rfl
                simp only [todo, List.map_cons, List.sum_cons] at this ⊢
                omega
            rw [hz l fun x hx => Classical.byContradiction fun hno' => hno ⟨x, hx, hno'⟩] at hn
            simp at hn
          obtain ⟨m1, y, m2, rfl, k1, k2⟩ := first_not hex
          have c4' := c4
          rw [List.map_append, List.map_cons] at c4'
          obtain ⟨i, hi⟩ := h.next (c3 _ (hlC y (by simp))) (by simpa using chAll_at _ [] _ _ c4') k1 k2 (hxdn y (by simp))
          rw [h0] at hi; cases hi
      · have hr := ready_iff.1 hj
        have hcase := c5 j (List.mem_range.2 hr.2.1)
        simp only [Bool.or_eq_true, Bool.and_eq_true, List.any_eq_true, List.all_eq_true, List.mem_map, List.contains_iff_mem, beq_iff_eq] at hcase
        rcases hcase with h1 | ⟨m, hm, h1⟩ | ⟨c, ⟨x, hx, rfl⟩, h1⟩ | ⟨h1, h2⟩
        · have := (h.list j).2 (.inl h1)
          rw [hr.1.2] at this; cases this
        · -- one's own
          rw [hms] at hm
          rcases List.mem_append.1 hm with hm | hm
          · have := (h.list j).2 (.inr (.inl ((hdn j).2 ⟨m, hm, h1⟩)))
            rw [hr.1.2] at this; cases this
          · obtain ⟨i1, i2, e⟩ := List.append_of_mem hm
            cases i1 with
            | nil => exact hown m i2 e j h1.symm
            | cons m0 i1 =>
              exfalso
              have hv0 := hhv m0 (i1 ++ m :: i2) e
              have hd := mDeps_at (pre ++ m0 :: i1) [] m i2 (by rw [show pre ++ m0 :: i1 ++ m :: i2 = pre ++ (m0 :: i1 ++ m :: i2) by simp, ← e, ← hms]; exact c2)
              rw [List.nil_append] at hd
              simp only [mDep1, Bool.and_eq_true, List.all_eq_true, Bool.or_eq_true] at hd
              have h3 := hd.1.2.2 m0 (by simp)
              rw [hv0] at h3
              have h4 : m0.1 ∈ befores .any ops (m.1 + 1) [m.1] := by
                rcases h3 with h3 | h3
                · cases h3
                · simpa using h3
              have h5 := hdep m0 _ e
              rcases befores_listed h.closed (h1 ▸ hj) (m.1 + 1) [m.1] (fun q hq => .inl (by simpa using hq)) _ h4 with h6 | h6
              · have := hd.1.2.1
                simp only [Bool.not_eq_true', List.any_eq_false] at this
                exact this m0 (by simp) (by simp [h6])
              · rw [(ready_iff.1 h5.1).1.2] at h6; cases h6
        · exact hfl j hj x hx h1
        · cases his : is with
          | cons m is' =>
            have hv := hhv m is' his
            have h3 := h2 m (by rw [hms, his]; simp)
            rw [hv] at h3
            have h4 : m.1 ∈ befores .any ops (j + 1) [j] := by
              rcases h3 with h3 | h3
              · cases h3
              · exact h3
            rcases befores_listed h.closed hj (j + 1) [j] (fun q hq => .inl (by simpa using hq)) _ h4 with h6 | h6
            · exact hown m is' his j h6.symm
            · rw [(ready_iff.1 (hdep m is' his).1).1.2] at h6; cases h6
          | nil =>
            rw [his] at hn
            have hex : ∃ x ∈ l, ¬ x.over := Classical.byContradiction fun hno => by
              have hz : ∀ (m : List It), (∀ x ∈ m, x.over) → todo m = 0 := fun m => by
                induction m with
                | nil => intro _; rfl
                | cons y m ih =>
                  intro hy
                  obtain ⟨r, S, V, v, e⟩ := hy y (List.mem_cons_self ..)
                  have := ih fun z hz => hy z (List.mem_cons_of_mem _ hz)
                  have hz : y.st.left y.c = 0 := by rw [e]; rfl
                  simp only [todo, List.map_cons, List.sum_cons] at this ⊢
                  omega
              rw [hz l fun x hx => Classical.byContradiction fun hno' => hno ⟨x, hx, hno'⟩] at hn
              simp at hn
            obtain ⟨x, hx, hnx⟩ := hex
            have h3 := h1 x.c ⟨x, hx, rfl⟩
            rcases befores_listed h.closed hj (j + 1) [j] (fun q hq => .inl (by simpa using hq)) _ h3 with h6 | h6
            · exact hfl j hj x hx (h6 ▸ num_mem _)
            · exfalso
              have h4 := c3 _ (hlC x hx)
              simp only [chOk1, Bool.and_eq_true, List.all_eq_true, decide_eq_true_eq, Bool.not_eq_true'] at h4
              obtain ⟨h4, h5⟩ := h4
              have := h.unseen hx (num_mem _) (h4 _ (num_mem _)).2.2 (hxdn x hx _ (num_mem _)) (fun hs => by
                cases hst : x.st with
                | no => rw [hst] at hs; exact hs
                | mid g =>
                  rw [hst] at hs
                  obtain ⟨d, e⟩ := hs
                  rw [e] at h5
                  simp at h5
                | done r S V v => exact hnx ⟨r, S, V, v, hst⟩)
              rw [h6] at this; cases this
    cases hrun with
    | done hk => exact heavy (fun m is' e => by cases e) (fun m is' e => by cases e)
    | @pure i d o y is' _ _ g1 g2 g3 g4 g5 g6 g7 g8 =>
      obtain ⟨hrd, hdp⟩ := hdep (i, true) is' rfl
      have hmm : (i, true) ∈ ms := by rw [hms]; simp
      obtain ⟨e1, e2⟩ := hmd d g5
      have hdl : ∀ x ∈ l, d ∉ x.c.dsts := fun x hx => e2 _ (hl ▸ List.mem_map.2 ⟨x, hx, rfl⟩)
      obtain ⟨v, hy, hrun'⟩ := g6 N a w W h.now
      have hfree : Region.free .any ops (markAll L0 (pre.map Prod.fst)) i = true := by
        simp only [mDep1, Bool.and_eq_true, Bool.or_eq_true] at hdp
        rcases hdp.2 with h3 | h3
        · cases h3
        · exact h3
      have hfree := Region.free_spec g1 hfree
      refine wpAnyJ_pure g1 (Region.noSelect_spec c0) (fun c a' w' hp => by cases hp.1) (f + n) Sx listed a w h.closed (fun j oj h1 h2 h3 h4 => hfree j oj h1 h2 ?_ h4) hrd (v := v) (.inl ⟨want_real h.now g2, fun w' _ => hrun' w'⟩) (hS _ h.below) ?_
      · have hsz : (markAll L0 (pre.map Prod.fst)).size = listed.size := by rw [markAll_size, h.size]
        simp only [Array.getD_eq_getD_getElem?] at h3 ⊢
        rcases Nat.lt_or_ge j listed.size with hj | hj
        · rw [Array.getElem?_eq_getElem (by omega)]
          rw [Array.getElem?_eq_getElem hj] at h3
          simp only [Option.getD_some] at h3 ⊢
          rw [Bool.eq_false_iff]
          intro h5
          have h6 := (markAll_get (pre.map Prod.fst) L0 (fun k hk => by
            obtain ⟨p, hp, rfl⟩ := List.mem_map.1 hk
            exact (hm1 p (hpm p hp)).1.2.1) j).1 (by simp [Array.getD_eq_getD_getElem?, show j < (markAll L0 (pre.map Prod.fst)).size by omega, h5])
          have := (h.list j).2 (by
            rcases h6 with h6 | h6
            · exact .inl h6
            · exact .inr (.inl (by simpa using h6)))
          simp only [Array.getD_eq_getD_getElem?, Array.getElem?_eq_getElem hj, Option.getD_some] at this
          rw [h3] at this; cases this
        · rw [Array.getElem?_eq_none hj] at h3
          cases h3
      · rw [g3]
        have hil : i < listed.size := (ready_iff.1 hrd).1.1
        exact ih (pre ++ [(i, true)]) is' l ((d, y) :: D) U W _ _ w (by rw [hms]; simp) (by simp at hn; omega) hl (by simpa using h.pure hrd hil g4 hy g7 hdl e1) g8
    | @call i d o Q is' _ _ g1 g2 g3 g4 g5 g6 g7 =>
      refine heavy (fun m is'' e => by cases e; rfl) (fun m is'' e j hj => ?_)
      cases e
      subst hj
      obtain ⟨hrd, _⟩ := hdep (j, false) is' rfl
      obtain ⟨e1, e2⟩ := hmd d g5
      have hdl : ∀ x ∈ l, d ∉ x.c.dsts := fun x hx => e2 _ (hl ▸ List.mem_map.2 ⟨x, hx, rfl⟩)
      have hil : j < listed.size := (ready_iff.1 hrd).1.1
      unfold wpOp
      simp only [g1, want_real h.now g2, if_true]
      refine .inl (Oper.wp_mono (fun a' w' hh => ?_) (g6 _ a w W h.now))
      obtain ⟨hb, r, S, V, v, k1, k2, k3, rfl, k4, k5, k6⟩ := hh
      rw [g3]
      refine .inl ⟨hS _ (h.below.trans (hb.mono h.below.size)), ih (pre ++ [(j, false)]) is' l _ _ _ _ _ w' (by rw [hms]; simp) (by simp at hn; omega) hl (by simpa using h.call hrd hil g4 hb k2 k3 k4 k5 k6 hdl e1) ?_⟩
      have := g7 r S k1
      simpa using this
end
end Go.Proofs.Ytkaikajjhhnifaa.E
