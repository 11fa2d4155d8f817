/- Words of the session's own, second part: what a code comes to over slots and resources: the rules of control. -/
import Derived.Test.YtkaikajjhhnifaaE1
import Derived.Calls
namespace Go.Proofs.Ytkaikajjhhnifaa.E
open Go Go.RowKit
set_option linter.unusedVariables false
set_option linter.unusedSimpArgs false

abbrev Slots := List (Nat × AV)

def get : Slots → Nat → AV
  | [], _ => .any
  | (d, v) :: s, t => if d = t then v else get s t

theorem AVR.any (W : Wit) (R : List Res) (w : World) (v : Value) : AVR W R w .any v := trivial

theorem AR.sc_inv {W : Wit} {R : List Res} {w : World} {v u : Value} (h : AR W R w [.sc v] [u]) : u = v := by
  cases h with
  | sc _ _ => rfl

structure Now (N : Nat) (s : Slots) (R : List Res) (a : Act) (w : World) (W : Wit) : Prop where
  size : a.tmps.size = N
  defers : a.defers = []
  val : ∀ t, AVR W R w (get s t) (a.tmps.getD t undef)
  sep : Sep w W R

def Reach (N : Nat) (w : World) (W : Wit) (R : List Res) (K : Slots → List Res → Prop) (a' : Act) (w' : World) : Prop :=
  ∃ s' R' W', K s' R' ∧ Now N s' R' a' w' W' ∧ Trans w W R w' W' R'

theorem Reach.mono {N : Nat} {w : World} {W : Wit} {R : List Res} {K K' : Slots → List Res → Prop} {a' : Act} {w' : World} (h : Reach N w W R K a' w') (hk : ∀ s R, K s R → K' s R) : Reach N w W R K' a' w' := by
  obtain ⟨s', R', W', h1, h2⟩ := h
  exact ⟨s', R', W', hk _ _ h1, h2⟩

theorem Reach.after {N : Nat} {w w1 : World} {W W1 : Wit} {R R1 : List Res} {K : Slots → List Res → Prop} {a' : Act} {w' : World} (h : Reach N w1 W1 R1 K a' w') (ht : Trans w W R w1 W1 R1) : Reach N w W R K a' w' := by
  obtain ⟨s', R', W', h1, h2, h3⟩ := h
  exact ⟨s', R', W', h1, h2, ht.trans h3⟩

def ECode (P : Program) (N : Nat) (c : Code) (s : Slots) (R : List Res) (Q : Exit → Slots → List Res → Prop) : Prop :=
  ∀ a w W, Now N s R a w W → c.wp P (fun ex a' w' => Reach N w W R (Q ex) a' w') a w

def EThen (next : Slots → List Res → Prop) (Q : Exit → Slots → List Res → Prop) : Exit → Slots → List Res → Prop
  | .normal => next
  | e => Q e

def EBlock (id : Nat) (Q : Exit → Slots → List Res → Prop) : Exit → Slots → List Res → Prop
  | .exit id' => if id' = id then Q .normal else Q (.exit id')
  | e => Q e

section
variable {P : Program} {N : Nat} {s : Slots} {R : List Res} {Q : Exit → Slots → List Res → Prop}

theorem ECode.mono {c : Code} {Q' : Exit → Slots → List Res → Prop} (h : ECode P N c s R Q) (hq : ∀ e s R, Q e s R → Q' e s R) : ECode P N c s R Q' :=
  fun a w W hn => wp_mono (h a w W hn) fun e a' w' hr => hr.mono (hq e)

theorem E_seq {x y : Code} (h : ECode P N x s R (EThen (fun s' R' => ECode P N y s' R' Q) Q)) : ECode P N (.seq x y) s R Q := by
  intro a w W hn
  refine wp_seq (wp_mono (h a w W hn) fun e a1 w1 hr => ?_)
  cases e with
  | normal =>
    obtain ⟨s1, R1, W1, h1, h2, h3⟩ := hr
    exact wp_mono (h1 a1 w1 W1 h2) fun e a' w' hr' => hr'.after h3
  | exit id => exact hr
  | goto l => exact hr
  | ret => exact hr
  | panic ch => exact hr
  | outgrown => exact hr

theorem E_skip (h : Q .normal s R) : ECode P N .skip s R Q := fun a w W hn => wp_skip ⟨s, R, W, h, hn, .refl ..⟩
theorem E_label {l : Nat} (h : Q .normal s R) : ECode P N (.label l) s R Q := fun a w W hn => wp_label ⟨s, R, W, h, hn, .refl ..⟩
theorem E_exit {id : Nat} (h : Q (.exit id) s R) : ECode P N (.exit id) s R Q := fun a w W hn => wp_exit ⟨s, R, W, h, hn, .refl ..⟩
theorem E_ret (h : Q .ret s R) : ECode P N .ret s R Q := fun a w W hn => wp_ret ⟨s, R, W, h, hn, .refl ..⟩

theorem E_cond {t : Nat} {b : Bool} {x y : Code} (hb : get s t = .c (.sc (.bool b))) (h1 : b = true → ECode P N x s R Q) (h2 : b = false → ECode P N y s R Q) : ECode P N (.cond (.tmp t) x y) s R Q := by
  intro a w W hn
  have hv := hn.val t
  rw [hb] at hv
  have he : a.eval (.tmp t) = .bool b := AR.sc_inv hv
  exact wp_cond_split he (fun h => h1 h a w W hn) (fun h => h2 h a w W hn)

theorem E_cond_const {b : Bool} {x y : Code} (h1 : b = true → ECode P N x s R Q) (h2 : b = false → ECode P N y s R Q) : ECode P N (.cond (.const (.bool b)) x y) s R Q := by
  intro a w W hn
  exact wp_cond_split (t := b) rfl (fun h => h1 h a w W hn) (fun h => h2 h a w W hn)

theorem E_block {id : Nat} {c : Code} (h : ECode P N c s R (EBlock id Q)) : ECode P N (.block id c) s R Q := by
  intro a w W hn
  refine wp_block (wp_mono (h a w W hn) fun e a' w' hr => ?_)
  cases e with
  | exit id' =>
    simp only [Exit.inBlock, EBlock] at hr ⊢
    split at hr <;> simp_all
  | normal => exact hr
  | goto l => exact hr
  | ret => exact hr
  | panic ch => exact hr
  | outgrown => exact hr

/-- A loop: I says, with a number that falls, what holds at a round's head. -/
theorem E_loop {c : Code} (I : Nat → Slots → List Res → Prop) (n0 : Nat) (h0 : I n0 s R)
    (round : ∀ n s R, I n s R → ECode P N c s R (EThen (fun s' R' => ∃ m, m < n ∧ I m s' R') Q)) : ECode P N (.loop c) s R Q := by
  intro a w W hn
  intro b k cs
  have key : ∀ n a1 w1, (∃ s1 R1 W1, I n s1 R1 ∧ Now N s1 R1 a1 w1 W1 ∧ Trans w W R w1 W1 R1) →
      ∃ e a' w', Reach N w W R (Q e) a' w' ∧ Arrives P (lone (b.at a1 (.code c :: .inLoop c :: k)) cs w1) b k cs e a' w' := by
    intro n
    induction n using Nat.strongRecOn with
    | _ n ih =>
      rintro a1 w1 ⟨s1, R1, W1, hI, hn1, ht1⟩
      obtain ⟨e, a2, w2, hq, harr⟩ := round n s1 R1 hI a1 w1 W1 hn1 b (.inLoop c :: k) cs
      cases e with
      | normal =>
        obtain ⟨s2, R2, W2, ⟨m, hm, hI2⟩, hn2, ht2⟩ := hq
        obtain ⟨e3, a3, w3, hq3, harr3⟩ := ih m hm a2 w2 ⟨s2, R2, W2, hI2, hn2, ht1.trans ht2⟩
        exact ⟨e3, a3, w3, hq3, .of_steps (Steps.trans harr (.one step_inLoop)) harr3⟩
      | exit id => exact ⟨_, a2, w2, hq.after ht1, .pass (x := .inLoop c) rfl (fun _ _ => .inl (by simp)) harr⟩
      | goto l => exact ⟨_, a2, w2, hq.after ht1, .pass (x := .inLoop c) rfl (fun _ _ => .inl (by simp)) harr⟩
      | ret => exact ⟨_, a2, w2, hq.after ht1, .pass (x := .inLoop c) rfl (fun _ _ => .inl (by simp)) harr⟩
      | panic ch => exact ⟨_, a2, w2, hq.after ht1, .pass (x := .inLoop c) rfl (fun _ _ => .inl (by simp)) harr⟩
      | outgrown => exact ⟨_, a2, w2, hq.after ht1, .pass (x := .inLoop c) rfl (fun _ _ => .inl (by simp)) harr⟩
  obtain ⟨e, a', w', hq, harr⟩ := key n0 a w ⟨s, R, W, h0, hn, .refl ..⟩
  exact ⟨e, a', w', hq, .of_steps (.one step_loop) harr⟩

end

/-! ### Fewer slots, fewer resources -/
def AC.top : AC → Nat   -- one more than the greatest resource that is named
  | .sl i _ _ _ => i + 1
  | .bp i _ => i + 1
  | .ep i _ _ _ => i + 1
  | .fn _ caps => tops caps
  | _ => 0
where tops : List AC → Nat
  | [] => 0
  | c :: cs => max c.top (tops cs)

end Go.Proofs.Ytkaikajjhhnifaa.E
