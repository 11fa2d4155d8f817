/- Words of the session's own, twentieth part: codes told against the world in which the call began: what is no longer needed of the call's own resources can be forgotten, and what is left be told in another order. -/
import Derived.Test.YtkaikajjhhnifaaE19
namespace Go.Proofs.Ytkaikajjhhnifaa.E
open Go Go.RowKit
set_option linter.unusedVariables false
set_option linter.unusedSimpArgs false

def GCode (P : Program) (N n : Nat) (c : Code) (s : Slots) (R : List Res) (Q : Exit → Slots → List Res → Prop) : Prop :=
  ∀ w0 W0 R0, R0.length = n → ∀ a w W, Now N s R a w W → Trans w0 W0 R0 w W R → c.wp P (fun ex a' w' => Reach N w0 W0 R0 (Q ex) a' w') a w

def renS (n : Nat) (σ : List Nat) : Slots → Slots
  | [] => []
  | (d, v) :: s => (d, v.ren n σ) :: renS n σ s

theorem get_renS (n : Nat) (σ : List Nat) (t : Nat) : ∀ s : Slots, get (renS n σ s) t = (get s t).ren n σ
  | [] => rfl
  | (d, v) :: s => by
    simp only [renS, E.get]
    split
    · rfl
    · exact get_renS n σ t s

section
variable {P : Program} {N n : Nat} {s : Slots} {R : List Res} {Q : Exit → Slots → List Res → Prop}

theorem E_G {c : Code} (hn : R.length = n) (h : GCode P N n c s R Q) : ECode P N c s R Q := fun a w W hw => h w W R hn a w W hw (.refl ..)
theorem G_E {c : Code} (h : ECode P N c s R Q) : GCode P N n c s R Q := fun w0 W0 R0 _ a w W hn ht => wp_mono (h a w W hn) fun e a' w' hr => hr.after ht

theorem GCode.mono {c : Code} {Q' : Exit → Slots → List Res → Prop} (h : GCode P N n c s R Q) (hq : ∀ e s R, Q e s R → Q' e s R) : GCode P N n c s R Q' :=
  fun w0 W0 R0 h0 a w W hn ht => wp_mono (h w0 W0 R0 h0 a w W hn ht) fun e a' w' hr => hr.mono (hq e)

theorem GCode.sub {c : Code} {L : Slots} (hs : Sub L s) (h : GCode P N n c L R Q) : GCode P N n c s R Q :=
  fun w0 W0 R0 h0 a w W hn ht => h w0 W0 R0 h0 a w W (hn.sub hs) ht

theorem G_seq {x y : Code} (h : GCode P N n x s R (EThen (fun s' R' => GCode P N n y s' R' Q) Q)) : GCode P N n (.seq x y) s R Q := by
  intro w0 W0 R0 h0 a w W hn ht
  refine wp_seq (wp_mono (h w0 W0 R0 h0 a w W hn ht) fun e a1 w1 hr => ?_)
  cases e with
  | normal =>
    obtain ⟨s1, R1, W1, h1, h2, h3⟩ := hr
    exact h1 w0 W0 R0 h0 a1 w1 W1 h2 h3
  | exit id => exact hr
  | goto l => exact hr
  | ret => exact hr
  | panic ch => exact hr
  | outgrown => exact hr

theorem G_skip (h : Q .normal s R) : GCode P N n .skip s R Q := G_E (E_skip h)
theorem G_exit {id : Nat} (h : Q (.exit id) s R) : GCode P N n (.exit id) s R Q := G_E (E_exit h)
theorem G_ret (h : Q .ret s R) : GCode P N n .ret s R Q := G_E (E_ret h)

theorem G_cond {t : Nat} {b : Bool} {x y : Code} (hb : get s t = .c (.sc (.bool b))) (h1 : b = true → GCode P N n x s R Q) (h2 : b = false → GCode P N n y s R Q) : GCode P N n (.cond (.tmp t) x y) s R Q := by
  intro w0 W0 R0 h0 a w W hn ht
  have hv := hn.val t
  rw [hb] at hv
  have he : a.eval (.tmp t) = .bool b := AR.sc_inv hv
  exact wp_cond_split he (fun h => h1 h w0 W0 R0 h0 a w W hn ht) (fun h => h2 h w0 W0 R0 h0 a w W hn ht)

theorem G_cond_const {b : Bool} {x y : Code} (h1 : b = true → GCode P N n x s R Q) (h2 : b = false → GCode P N n y s R Q) : GCode P N n (.cond (.const (.bool b)) x y) s R Q := by
  intro w0 W0 R0 h0 a w W hn ht
  exact wp_cond_split (t := b) rfl (fun h => h1 h w0 W0 R0 h0 a w W hn ht) (fun h => h2 h w0 W0 R0 h0 a w W hn ht)

theorem G_block {id : Nat} {c : Code} (h : GCode P N n c s R (EBlock id Q)) : GCode P N n (.block id c) s R Q := by
  intro w0 W0 R0 h0 a w W hn ht
  refine wp_block (wp_mono (h w0 W0 R0 h0 a w W hn ht) fun e a' w' hr => ?_)
  cases e with
  | exit id' =>
    simp only [Exit.inBlock, EBlock] at hr ⊢
    split at hr <;> simp_all
  | normal => exact hr
  | goto l => exact hr
  | ret => exact hr
  | panic ch => exact hr
  | outgrown => exact hr

theorem G_loop {c : Code} (I : Nat → Slots → List Res → Prop) (n0 : Nat) (h0 : I n0 s R)
    (round : ∀ m s R, I m s R → GCode P N n c s R (EThen (fun s' R' => ∃ m', m' < m ∧ I m' s' R') Q)) : GCode P N n (.loop c) s R Q := by
  intro w0 W0 R0 hl a w W hn ht
  intro b k cs
  have key : ∀ m a1 w1, (∃ s1 R1 W1, I m s1 R1 ∧ Now N s1 R1 a1 w1 W1 ∧ Trans w0 W0 R0 w1 W1 R1) →
      ∃ e a' w', Reach N w0 W0 R0 (Q e) a' w' ∧ Arrives P (lone (b.at a1 (.code c :: .inLoop c :: k)) cs w1) b k cs e a' w' := by
    intro m
    induction m using Nat.strongRecOn with
    | _ m ih =>
      rintro a1 w1 ⟨s1, R1, W1, hI, hn1, ht1⟩
      obtain ⟨e, a2, w2, hq, harr⟩ := round m s1 R1 hI w0 W0 R0 hl a1 w1 W1 hn1 ht1 b (.inLoop c :: k) cs
      cases e with
      | normal =>
        obtain ⟨s2, R2, W2, ⟨m', hm, hI2⟩, hn2, ht2⟩ := hq
        obtain ⟨e3, a3, w3, hq3, harr3⟩ := ih m' hm a2 w2 ⟨s2, R2, W2, hI2, hn2, ht2⟩
        exact ⟨e3, a3, w3, hq3, .of_steps (Steps.trans harr (.one step_inLoop)) harr3⟩
      | exit id => exact ⟨_, a2, w2, hq, .pass (x := .inLoop c) rfl (fun _ _ => .inl (by simp)) harr⟩
      | goto l => exact ⟨_, a2, w2, hq, .pass (x := .inLoop c) rfl (fun _ _ => .inl (by simp)) harr⟩
      | ret => exact ⟨_, a2, w2, hq, .pass (x := .inLoop c) rfl (fun _ _ => .inl (by simp)) harr⟩
      | panic ch => exact ⟨_, a2, w2, hq, .pass (x := .inLoop c) rfl (fun _ _ => .inl (by simp)) harr⟩
      | outgrown => exact ⟨_, a2, w2, hq, .pass (x := .inLoop c) rfl (fun _ _ => .inl (by simp)) harr⟩
  obtain ⟨e, a', w', hq, harr⟩ := key n0 a w ⟨s, R, W, h0, hn, ht⟩
  exact ⟨e, a', w', hq, .of_steps (.one step_loop) harr⟩

/-- What is told anew: fewer resources, in another order. -/
theorem Now.gc {w0 : World} {W0 : Wit} {R0 : List Res} {σ : List Nat} {a : Act} {w : World} {W : Wit} (h : Now N s R a w W) (ht : Trans w0 W0 R0 w W R) (hl : R0.length = n) (ho : okσ n R σ = true) :
    Now N (renS n σ s) (reR n σ R) a w (W.ren n σ) ∧ Trans w0 W0 R0 w (W.ren n σ) (reR n σ R) := by
  have hn : n ≤ R.length := hl ▸ ht.len
  exact ⟨⟨h.size, h.defers, fun t => by rw [get_renS]; exact (h.val t).ren hn ho, h.sep.ren hn ho⟩, ht.ren hl ho⟩

theorem G_gc {c : Code} (σ : List Nat) (ho : okσ n R σ = true) (h : GCode P N n c (renS n σ s) (reR n σ R) Q) : GCode P N n c s R Q := by
  intro w0 W0 R0 hl a w W hn ht
  obtain ⟨h1, h2⟩ := hn.gc ht hl ho
  exact h w0 W0 R0 hl a w _ h1 h2

theorem G_tidy {c : Code} (keep : List Nat) {base : Slots} {R' : List Res} (hb : keepOf s keep = base) (hR : R = R') (h : GCode P N n c base R' Q) : GCode P N n c s R Q := by
  subst hR
  subst hb
  exact GCode.sub (keep_sub s keep).sub h

theorem G_drop {c : Code} (keep : List Nat) (σ : List Nat) {base : Slots} {R' : List Res} (ho : okσ n R σ = true) (hb : renS n σ (keepOf s keep) = base) (hR : reR n σ R = R') (h : GCode P N n c base R' Q) : GCode P N n c s R Q := by
  subst hR
  subst hb
  exact GCode.sub (keep_sub s keep).sub (G_gc σ ho h)

/-- A loop: x says where it stands; what it turns is told by mods, what it keeps stands in base. -/
theorem G_for {α : Type} {c : Code} (keep : List Nat) (mods : α → Slots) (Rf : α → List Res) (I : α → Prop) (m : α → Nat) (x0 : α) {base : Slots} (hb : keepOf s keep = base) (h0 : I x0) (hR : R = Rf x0) (h1 : chk s (mods x0))
    (round : ∀ x, I x → GCode P N n c (mods x ++ base) (Rf x) (EThen (fun s' R' => ∃ y, m y < m x ∧ I y ∧ R' = Rf y ∧ chk s' (mods y) ∧ chk s' base) Q)) : GCode P N n (.loop c) s R Q := by
  refine G_loop (fun n s' R' => ∃ x, n = m x ∧ I x ∧ R' = Rf x ∧ chk s' (mods x) ∧ chk s' base) (m x0) ⟨x0, rfl, h0, hR, h1, by rw [← hb]; exact keep_sub s keep⟩ ?_
  rintro n s' R' ⟨x, rfl, hI, rfl, k1, k2⟩
  refine GCode.sub (Sub.app k1 k2.sub) ((round x hI).mono ?_)
  intro e s2 R2 h
  cases e with
  | normal =>
    obtain ⟨y, g1, g2⟩ := h
    exact ⟨m y, g1, y, rfl, g2⟩
  | exit id => exact h
  | goto l => exact h
  | ret => exact h
  | panic ch => exact h
  | outgrown => exact h

theorem Reach.gc {w0 : World} {W0 : Wit} {R0 : List Res} {K : Slots → List Res → Prop} {a : Act} {w : World} (hl : R0.length = n) (h : Reach N w0 W0 R0 (fun s' R' => ∃ σ, okσ n R' σ = true ∧ K (renS n σ s') (reR n σ R')) a w) : Reach N w0 W0 R0 K a w := by
  obtain ⟨s', R', W', ⟨σ, h1, h2⟩, h3, h4⟩ := h
  obtain ⟨k1, k2⟩ := h3.gc h4 hl h1
  exact ⟨_, _, _, h2, k1, k2⟩

/-- A loop whose rounds leave resources behind that are then forgotten. -/
theorem G_forD {α : Type} {c : Code} (keep : List Nat) (mods : α → Slots) (Rf : α → List Res) (I : α → Prop) (m : α → Nat) (x0 : α) {base : Slots} (hb : keepOf s keep = base) (h0 : I x0) (hR : R = Rf x0) (h1 : chk s (mods x0))
    (round : ∀ x, I x → GCode P N n c (mods x ++ base) (Rf x) (EThen (fun s' R' => ∃ σ, okσ n R' σ = true ∧ ∃ y, m y < m x ∧ I y ∧ reR n σ R' = Rf y ∧ chk (renS n σ s') (mods y) ∧ chk (renS n σ s') base) Q)) : GCode P N n (.loop c) s R Q := by
  refine G_for keep mods Rf I m x0 hb h0 hR h1 fun x hx => ?_
  intro w0 W0 R0 hl a w W hn ht
  refine wp_mono (round x hx w0 W0 R0 hl a w W hn ht) fun e a' w' hr => ?_
  cases e with
  | normal => exact Reach.gc hl hr
  | exit id => exact hr
  | goto l => exact hr
  | ret => exact hr
  | panic ch => exact hr
  | outgrown => exact hr

/-- Two roads meet. -/
theorem G_seqJ {α : Type} {x y : Code} (keep : List Nat) (mods : α → Slots) (Rf : α → List Res) (I : α → Prop) {base : Slots} (hb : keepOf s keep = base)
    (hx : GCode P N n x s R (EThen (fun s' R' => ∃ z, I z ∧ R' = Rf z ∧ chk s' (mods z) ∧ chk s' base) Q)) (hy : ∀ z, I z → GCode P N n y (mods z ++ base) (Rf z) Q) : GCode P N n (.seq x y) s R Q := by
  refine G_seq (hx.mono ?_)
  intro e s2 R2 h
  cases e with
  | normal =>
    obtain ⟨z, g1, rfl, g3, g4⟩ := h
    exact GCode.sub (Sub.app g3 g4.sub) (hy z g1)
  | exit id => exact h
  | goto l => exact h
  | ret => exact h
  | panic ch => exact h
  | outgrown => exact h

/-- Two roads meet that leave resources behind. -/
theorem G_seqD {α : Type} {x y : Code} (keep : List Nat) (mods : α → Slots) (Rf : α → List Res) (I : α → Prop) {base : Slots} (hb : keepOf s keep = base)
    (hx : GCode P N n x s R (EThen (fun s' R' => ∃ σ, okσ n R' σ = true ∧ ∃ z, I z ∧ reR n σ R' = Rf z ∧ chk (renS n σ s') (mods z) ∧ chk (renS n σ s') base) Q)) (hy : ∀ z, I z → GCode P N n y (mods z ++ base) (Rf z) Q) : GCode P N n (.seq x y) s R Q := by
  refine G_seqJ keep mods Rf I hb ?_ hy
  intro w0 W0 R0 hl a w W hn ht
  refine wp_mono (hx w0 W0 R0 hl a w W hn ht) fun e a' w' hr => ?_
  cases e with
  | normal => exact Reach.gc hl hr
  | exit id => exact hr
  | goto l => exact hr
  | ret => exact hr
  | panic ch => exact hr
  | outgrown => exact hr

theorem G_region' {id : Nat} {ops : Array Oper} {L : List Nat} (hL : List.range ops.size = L) (h : EOps P N ops L s R (Q .normal)) : GCode P N n (.region id ops false) s R Q := G_E (E_region' hL h)

theorem G_draw {id : Nat} {ops : Array Oper} (hm : P.follows .mixedOrders = true) (h : EAny P N ops true ops.size (Array.replicate ops.size false) s R (Q .normal)) : GCode P N n (.region id ops true) s R Q := G_E (E_draw hm h)

theorem G_bound {c : Code} {t : Nat} {rows : List (List T)} (hs : get s t = .c (.ro rows)) (h : rows.length ≤ 9223372036854775807 → GCode P N n c s R Q) : GCode P N n c s R Q := by
  intro w0 W0 R0 hl a w W hn ht
  have hv := hn.val t
  rw [hs] at hv
  exact h (AR.ro_len hv) w0 W0 R0 hl a w W hn ht
end

/-- An empty slice in a variable, that is nil, told as a row with nothing in it. -/
theorem view_ghostB {N : Nat} {s : Slots} {R : List Res} (i j e k : Nat) {cs : List AC} (hR : R[i]? = some (.box cs)) (hc : cs[j]? = some (.sc (.slice none 0 0))) (hk : 0 < k) {a : Act} {w : World} {W : Wit} (hn : Now N s R a w W) :
    ∃ W', Now N s (List.set (R ++ [Res.row e k []]) i (.box (cs.set j (.sl R.length 0 0 0)))) a w W' ∧ Trans w W R w W' (List.set (R ++ [Res.row e k []]) i (.box (cs.set j (.sl R.length 0 0 0)))) := by
  have hi : i < R.length := by
    rcases Nat.lt_or_ge i R.length with h' | h'
    · exact h'
    · rw [List.getElem?_eq_none h'] at hR; cases hR
  obtain ⟨W1, t1, s1, q1⟩ := hn.sep.row (w' := w) (e := e) (k := k) (rows := []) (cells := []) (v := .slice none 0 0) rfl rfl rfl (Nat.le_refl _) (fun _ _ => rfl) hk (by simp) (World.ownsRow_nil w 0 e k) (fun b hb => by cases hb) (by exact (Ow.nil : Ow w [] [] _))
  have hR1 : (R ++ [Res.row e k []])[i]? = some (.box cs) := by rw [List.getElem?_append_left hi]; exact hR
  have hi1 : i < (R ++ [Res.row e k []]).length := by simp; omega
  have tr : Trans w W1 (R ++ [Res.row e k []]) w W1 ((R ++ [Res.row e k []]).set i (.box (cs.set j (.sl R.length 0 0 0)))) := by
    refine ⟨rfl, rfl, rfl, Nat.le_refl _, fun _ _ => rfl, fun m b hb => .inl ⟨m, hb⟩, fun m => ?_⟩
    by_cases em : i = m
    · subst em; rw [List.getElem?_set_self hi1, hR1]; rfl
    · rw [List.getElem?_set_ne em]; exact Goes.refl _ _
  have sp : Sep w W1 ((R ++ [Res.row e k []]).set i (.box (cs.set j (.sl R.length 0 0 0)))) :=
    s1.step tr i (fun m h1 _ => by simpa using h1) (fun m h1 _ => List.getElem?_set_ne (Ne.symm h1)) (fun _ _ => rfl) (fun _ _ _ => Iff.rfl) (fun _ _ _ _ => rfl)
      (fun q hq => by
        rw [List.getElem?_set_self hi1] at hq
        obtain rfl := Option.some.inj hq
        obtain ⟨b, arr, e', f1, f2, f3, f4⟩ := s1.res i _ hR1
        refine ⟨b, arr, e', f1, f2, f3, ?_⟩
        refine (AR.setAt j f4 hc (fun v hv => ?_)).next tr
        have hv' : v = .slice none 0 0 := AR.sc_inv hv
        exact sl_whole (W' := W1) (R' := R ++ [.row e k []]) (w' := w) (i := R.length) (n := 0) (e := e) (k := k) (rows := []) (v := v) (by simp) rfl (q1.trans hv'.symm) (by rw [hv']; rfl) s1)
      (fun b hb => .inl hb) (fun b hb => s1.lt i b hb) (fun h' => absurd hi1 (by simp at h' ⊢; omega)) (fun h' => by rw [List.getElem?_set_self hi1] at h'; cases h')
  exact ⟨W1, (hn.next t1 s1).next tr sp, t1.trans tr⟩

theorem G_ghostB {P : Program} {N n : Nat} {s : Slots} {R : List Res} {Q : Exit → Slots → List Res → Prop} {c : Code} (i j e k : Nat) {cs : List AC} (hR : R[i]? = some (.box cs)) (hc : cs[j]? = some (.sc (.slice none 0 0))) (hk : 0 < k)
    (h : GCode P N n c s (List.set (R ++ [Res.row e k []]) i (.box (cs.set j (.sl R.length 0 0 0)))) Q) : GCode P N n c s R Q := by
  intro w0 W0 R0 hl a w W hn ht
  obtain ⟨W1, h1, h2⟩ := view_ghostB i j e k hR hc hk hn
  exact h w0 W0 R0 hl a w W1 h1 (ht.trans h2)

end Go.Proofs.Ytkaikajjhhnifaa.E
