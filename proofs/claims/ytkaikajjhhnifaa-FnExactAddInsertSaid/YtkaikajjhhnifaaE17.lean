/- Words of the session's own, seventeenth part: an empty slice that is nil is told as a row with nothing in it. -/
import Derived.Test.YtkaikajjhhnifaaE16
namespace Go.Proofs.Ytkaikajjhhnifaa.E
open Go Go.RowKit
set_option linter.unusedVariables false
set_option linter.unusedSimpArgs false

def isNil : AC → Bool
  | .sc (.slice none 0 0) => true
  | _ => false
theorem isNil_eq {c : AC} (h : isNil c = true) : c = .sc (.slice none 0 0) := by
  unfold isNil at h
  split at h
  · rfl
  · cases h

def gh (n : Nat) : List AC → List (Option (Nat × Nat)) → List AC × List Res
  | [], _ => ([], [])
  | c :: cs, [] => (c :: cs, [])
  | c :: cs, g :: l => match isNil c, g with
    | true, some x => (.sl n 0 0 0 :: (gh (n + 1) cs l).1, .row x.1 x.2 [] :: (gh (n + 1) cs l).2)
    | _, _ => (c :: (gh n cs l).1, (gh n cs l).2)

def okl : List (Option (Nat × Nat)) → Bool
  | [] => true
  | some (_, k) :: l => decide (0 < k) && okl l
  | none :: l => okl l

theorem AR.cons_inv {W : Wit} {R : List Res} {w : World} {c : AC} {cs : List AC} {v : Value} {vs : List Value} (h : AR W R w (c :: cs) (v :: vs)) : AR W R w [c] [v] ∧ AR W R w cs vs :=
  ⟨by have := h.take 1; simpa using this, by have := h.drop 1; simpa using this⟩

theorem AR.cons_mk {W : Wit} {R : List Res} {w : World} {c : AC} {cs : List AC} {v : Value} {vs : List Value} (h : AR W R w [c] [v]) (k : AR W R w cs vs) : AR W R w (c :: cs) (v :: vs) := h.append k

theorem AR.ghost {w : World} : ∀ (cs : List AC) (l : List (Option (Nat × Nat))) (vs : List Value) (W : Wit) (R : List Res), okl l = true → Sep w W R → AR W R w cs vs →
    ∃ W', Trans w W R w W' (R ++ (gh R.length cs l).2) ∧ Sep w W' (R ++ (gh R.length cs l).2) ∧ AR W' (R ++ (gh R.length cs l).2) w (gh R.length cs l).1 vs
  | [], l, vs, W, R, _, hs, h => by
    simp only [gh, List.append_nil]
    exact ⟨W, .refl .., hs, h⟩
  | c :: cs, [], vs, W, R, _, hs, h => by
    simp only [gh, List.append_nil]
    exact ⟨W, .refl .., hs, h⟩
  | c :: cs, g :: l, vs, W, R, hk, hs, h => by
    match vs, h with
    | [], h => have := h.length; simp at this
    | v :: vs, h =>
      obtain ⟨h1, h2⟩ := h.cons_inv
      by_cases hc : isNil c = true ∧ ∃ e k, g = some (e, k)
      · obtain ⟨hnil, e, k, rfl⟩ := hc
        obtain rfl := isNil_eq hnil
        simp only [okl, Bool.and_eq_true, decide_eq_true_eq] at hk
        have hv : v = .slice none 0 0 := AR.sc_inv h1
        obtain ⟨W1, t1, s1, q1⟩ := hs.row (w' := w) (e := e) (k := k) (rows := []) (cells := []) (v := .slice none 0 0) rfl rfl rfl (Nat.le_refl _) (fun _ _ => rfl) hk.1 (by simp) (World.ownsRow_nil w 0 e k) (fun b hb => by cases hb) (by exact (Ow.nil : Ow w [] [] _))
        obtain ⟨W2, t2, s2, r2⟩ := AR.ghost cs l vs W1 (R ++ [.row e k []]) hk.2 s1 (h2.next t1)
        have e1 : gh R.length (.sc (.slice none 0 0) :: cs) (some (e, k) :: l) = (.sl R.length 0 0 0 :: (gh (R.length + 1) cs l).1, .row e k [] :: (gh (R.length + 1) cs l).2) := by simp only [gh, hnil]
        rw [e1]
        rw [show (R ++ [Res.row e k []]).length = R.length + 1 by simp] at t2 s2 r2
        rw [List.append_assoc] at t2 s2 r2
        refine ⟨W2, t1.trans t2, s2, AR.cons_mk ?_ r2⟩
        have := sl_whole (W' := W1) (R' := R ++ [.row e k []]) (w' := w) (i := R.length) (n := 0) (e := e) (k := k) (rows := []) (v := v) (by simp) rfl (q1.trans hv.symm) (by rw [hv]; rfl) s1
        have := AVR.next t2 this
        exact this
      · have e1 : gh R.length (c :: cs) (g :: l) = (c :: (gh R.length cs l).1, (gh R.length cs l).2) := by
          simp only [gh]
          cases hn : isNil c with
          | false => rfl
          | true => cases g with
            | none => rfl
            | some x => exact absurd ⟨hn, x.1, x.2, rfl⟩ hc
        rw [e1]
        obtain ⟨W2, t2, s2, r2⟩ := AR.ghost cs l vs W R (by cases g with | none => exact hk | some x => simp only [okl, Bool.and_eq_true] at hk; exact hk.2) hs h2
        exact ⟨W2, t2, s2, AR.cons_mk (h1.next t2) r2⟩

theorem EFn.ghost {P : Program} {f : FuncId} {args : List AV} {R : List Res} {Q Q' : AV → List Res → Prop} (h : EFn P f args R Q)
    (hq : ∀ r S, Q r S → Q' r S ∨ (∃ cs l, r = .agg cs ∧ okl l = true ∧ Q' (.agg (gh S.length cs l).1) (S ++ (gh S.length cs l).2)) ∨ (∃ c c' l, r = .c c ∧ okl l = true ∧ (gh S.length [c] l).1 = [c'] ∧ Q' (.c c') (S ++ (gh S.length [c] l).2))) : EFn P f args R Q' := by
  intro w W vals h1 h2
  refine (h w W vals h1 h2).mono ?_
  rintro e w' ⟨r, S, W', k1, ⟨v, rfl, k2⟩, k3, k4⟩
  rcases hq r S k1 with hq | ⟨cs, l, rfl, hl, hq⟩ | ⟨c, c', l, rfl, hl, hc, hq⟩
  · exact ⟨r, S, W', hq, ⟨v, rfl, k2⟩, k3, k4⟩
  · obtain ⟨vs, rfl, har⟩ := k2
    obtain ⟨W2, t2, s2, r2⟩ := AR.ghost cs l vs W' S hl k3 har
    exact ⟨_, _, W2, hq, ⟨_, rfl, vs, rfl, r2⟩, s2, k4.trans t2⟩
  · have har : AR W' S w' [c] [v] := k2
    obtain ⟨W2, t2, s2, r2⟩ := AR.ghost [c] l [v] W' S hl k3 har
    rw [hc] at r2
    exact ⟨_, _, W2, hq, ⟨v, rfl, r2⟩, s2, k4.trans t2⟩

theorem AR.setAt {W : Wit} {R : List Res} {w : World} {c c' : AC} : ∀ {cs : List AC} {vs : List Value} (j : Nat), AR W R w cs vs → cs[j]? = some c → (∀ v, AR W R w [c] [v] → AR W R w [c'] [v]) → AR W R w (cs.set j c') vs
  | [], vs, j, h, hc, _ => by simp at hc
  | d :: cs, vs, j, h, hc, hn => by
    match vs, h with
    | [], h => have := h.length; simp at this
    | v :: vs, h =>
      obtain ⟨h1, h2⟩ := h.cons_inv
      cases j with
      | zero =>
        obtain rfl : d = c := by simpa using hc
        exact AR.cons_mk (hn v h1) h2
      | succ j => exact AR.cons_mk h1 (AR.setAt j h2 (by simpa using hc) hn)

/-- An empty slice in a variable, that is nil, told as a row with nothing in it. -/
theorem E_ghostB {P : Program} {N : Nat} {s : Slots} {R : List Res} {Q : Exit → Slots → List Res → Prop} {c : Code} (i j e k : Nat) {cs : List AC} (hR : R[i]? = some (.box cs)) (hc : cs[j]? = some (.sc (.slice none 0 0))) (hk : 0 < k)
    (h : ECode P N c s (List.set (R ++ [Res.row e k []]) i (.box (cs.set j (.sl R.length 0 0 0)))) Q) : ECode P N c s R Q := by
  intro a w W hn
  have hi : i < R.length := by
    rcases Nat.lt_or_ge i R.length with h' | h'
    · exact h'
    · rw [List.getElem?_eq_none h'] at hR; cases hR
  obtain ⟨W1, t1, s1, q1⟩ := hn.sep.row (w' := w) (e := e) (k := k) (rows := []) (cells := []) (v := .slice none 0 0) rfl rfl rfl (Nat.le_refl _) (fun _ _ => rfl) hk (by simp) (World.ownsRow_nil w 0 e k) (fun b hb => by cases hb) (by exact (Ow.nil : Ow w [] [] _))
  have hR1 : (R ++ [Res.row e k []])[i]? = some (.box cs) := by rw [List.getElem?_append_left hi]; exact hR
  have hi1 : i < (R ++ [Res.row e k []]).length := by simp; omega
  have tr : Trans w W1 (R ++ [Res.row e k []]) w W1 ((R ++ [Res.row e k []]).set i (.box (cs.set j (.sl R.length 0 0 0)))) := by
    refine ⟨rfl, rfl, rfl, Nat.le_refl _, fun _ _ => rfl, fun m b hb => .inl ⟨m, hb⟩, fun m => ?_⟩
    by_cases em : i = m
    · subst em; rw [List.getElem?_set_self hi1, hR1]; rfl
    · rw [List.getElem?_set_ne em]; exact Goes.refl _ _
  have sp : Sep w W1 ((R ++ [Res.row e k []]).set i (.box (cs.set j (.sl R.length 0 0 0)))) :=
    s1.step tr i (fun m h1 _ => by simpa using h1) (fun m h1 _ => List.getElem?_set_ne (Ne.symm h1)) (fun _ _ => rfl) (fun _ _ _ => Iff.rfl) (fun _ _ _ _ => rfl)
      (fun q hq => by
        rw [List.getElem?_set_self hi1] at hq
        obtain rfl := Option.some.inj hq
        obtain ⟨b, arr, e', f1, f2, f3, f4⟩ := s1.res i _ hR1
        refine ⟨b, arr, e', f1, f2, f3, ?_⟩
        refine (AR.setAt j f4 hc (fun v hv => ?_)).next tr
        have hv' : v = .slice none 0 0 := AR.sc_inv hv
        exact sl_whole (W' := W1) (R' := R ++ [.row e k []]) (w' := w) (i := R.length) (n := 0) (e := e) (k := k) (rows := []) (v := v) (by simp) rfl (q1.trans hv'.symm) (by rw [hv']; rfl) s1)
      (fun b hb => .inl hb) (fun b hb => s1.lt i b hb) (fun h' => absurd hi1 (by simp at h' ⊢; omega)) (fun h' => by rw [List.getElem?_set_self hi1] at h'; cases h')
  exact wp_mono (h a w W1 ((hn.next t1 s1).next tr sp)) fun e a' w' hr => hr.after (t1.trans tr)

/-! ### Resources that are not told one by one -/
theorem set_at {R : List Res} {i : Nat} {r r' : Res} (h : R[i]? = some r) : (R.set i r')[i]? = some r' := by
  rcases Nat.lt_or_ge i R.length with h' | h'
  · exact List.getElem?_set_self h'
  · rw [List.getElem?_eq_none h'] at h; cases h
theorem set_same {R : List Res} {i : Nat} {r : Res} (h : R[i]? = some r) : R.set i r = R := by
  have hi : i < R.length := by
    rcases Nat.lt_or_ge i R.length with h' | h'
    · exact h'
    · rw [List.getElem?_eq_none h'] at h; cases h
  apply List.ext_getElem?
  intro j
  by_cases hj : i = j
  · subst hj; rw [List.getElem?_set_self hi, h]
  · rw [List.getElem?_set_ne hj]
theorem sameBox_set {R : List Res} {i e k : Nat} {rows : List (List T)} : sameBox R.length R (R.set i (.row e k rows)) := by
  refine ⟨by simp, fun j cs hj h => ?_⟩
  by_cases e' : i = j
  · subst e'; rw [List.getElem?_set_self hj] at h; cases h
  · rwa [List.getElem?_set_ne e'] at h

end Go.Proofs.Ytkaikajjhhnifaa.E
