/- Words of the session's own, nineteenth part: the call of a callee that was shown over some resources alone. -/
import Derived.Test.YtkaikajjhhnifaaE18
namespace Go.Proofs.Ytkaikajjhhnifaa.E
open Go Go.RowKit
set_option linter.unusedVariables false
set_option linter.unusedSimpArgs false

def un (n : Nat) (σ : List Nat) (q : Nat) : Nat := match σ[q]? with | some i => i | none => n + (q - σ.length)

def AC.un (n : Nat) (σ : List Nat) : AC → AC
  | .sl q off len tot => .sl (E.un n σ q) off len tot
  | .bp q off => .bp (E.un n σ q) off
  | .ep q j off tot => .ep (E.un n σ q) j off tot
  | .fn f caps => .fn f (uns n σ caps)
  | c => c
where uns (n : Nat) (σ : List Nat) : List AC → List AC
  | [] => []
  | c :: cs => c.un n σ :: uns n σ cs

def AV.un (n : Nat) (σ : List Nat) : AV → AV
  | .c x => .c (x.un n σ)
  | .agg xs => .agg (AC.un.uns n σ xs)
  | .tup xs => .tup (xs.map fun x => (x.1, AC.un.uns n σ x.2))
  | .any => .any

def Res.un (n : Nat) (σ : List Nat) : Res → Res
  | .box cs => .box (AC.un.uns n σ cs)
  | r => r

def backR (n : Nat) (σ : List Nat) (S : List Res) : Nat → List Res → List Res
  | _, [] => []
  | i, r :: R => (match ix σ i with | some q => ((S[q]?).getD .gone).un n σ | none => r) :: backR n σ S (i + 1) R

def back (σ : List Nat) (R S : List Res) : List Res := backR R.length σ S 0 R ++ (S.drop σ.length).map (Res.un R.length σ)

theorem backR_len (n : Nat) (σ : List Nat) (S : List Res) : ∀ (R : List Res) (i : Nat), (backR n σ S i R).length = R.length
  | [], _ => rfl
  | r :: R, i => by simp [backR, backR_len n σ S R (i + 1)]

theorem backR_at (n : Nat) (σ : List Nat) (S : List Res) : ∀ (R : List Res) (i j : Nat), j < R.length → (backR n σ S i R)[j]? = (match ix σ (i + j) with | some q => some (((S[q]?).getD .gone).un n σ) | none => R[j]?)
  | r :: R, i, 0, _ => by
    simp only [backR, Nat.add_zero, List.getElem?_cons_zero]
    cases ix σ i <;> rfl
  | r :: R, i, j + 1, h => by
    simp only [backR, List.getElem?_cons_succ]
    rw [backR_at n σ S R (i + 1) j (by simpa using h), show i + 1 + j = i + (j + 1) by omega]

theorem back_old {σ : List Nat} {R S : List Res} {j : Nat} (h : j < R.length) : (back σ R S)[j]? = (match ix σ j with | some q => some (((S[q]?).getD .gone).un R.length σ) | none => R[j]?) := by
  unfold back
  rw [List.getElem?_append_left (by rw [backR_len]; exact h), backR_at _ _ _ _ _ _ h, Nat.zero_add]

theorem back_new {σ : List Nat} {R S : List Res} (j : Nat) : (back σ R S)[R.length + j]? = (S[σ.length + j]?).map (Res.un R.length σ) := by
  unfold back
  rw [List.getElem?_append_right (by rw [backR_len]; omega), backR_len, show R.length + j - R.length = j by omega, List.getElem?_map, List.getElem?_drop]

theorem ix_of {σ : List Nat} (hd : σ.Nodup) {i q : Nat} (h : σ[q]? = some i) : ix σ i = some q := by
  cases hx : ix σ i with
  | none => exact absurd (List.mem_of_getElem? h) (AR.sub.ix_none hx)
  | some p => rw [nodup_inj hd (ix_get hx) h]

def Wit.back (W V : Wit) (n : Nat) (σ : List Nat) : Wit :=
  ⟨fun i => if i < n then (match ix σ i with | some q => V.hs q | none => W.hs i) else V.hs (σ.length + (i - n)),
   fun i b => if i < n then (match ix σ i with | some q => V.fs q b | none => W.fs i b) else V.fs (σ.length + (i - n)) b⟩

theorem Res.un_row {r : Res} {n e k : Nat} {σ : List Nat} {rows : List (List T)} (h : Res.row e k rows = r.un n σ) : r = .row e k rows := by cases r <;> first | exact h.symm | cases h
theorem Res.un_box {r : Res} {n : Nat} {σ : List Nat} {xs : List AC} (h : Res.box xs = r.un n σ) : ∃ ys, r = .box ys ∧ xs = AC.un.uns n σ ys := by
  cases r with
  | box ys => exact ⟨ys, rfl, by cases h; rfl⟩
  | row e k rows => cases h
  | gone => cases h
theorem Res.un_gone {r : Res} {n : Nat} {σ : List Nat} (h : Res.gone = r.un n σ) : r = .gone := by cases r <;> first | rfl | cases h

section
variable {w : World} {W V : Wit} {R S : List Res} {σ : List Nat}

/-- What is known of a resource of the callee's, where it now stands. -/
theorem un_at (hd : σ.Nodup) (hlt : ∀ i ∈ σ, i < R.length) {q : Nat} (hq : q < S.length) :
    (back σ R S)[E.un R.length σ q]? = some ((S[q]).un R.length σ) ∧ (W.back V R.length σ).hs (E.un R.length σ q) = V.hs q ∧ (∀ b, (W.back V R.length σ).fs (E.un R.length σ q) b ↔ V.fs q b) ∧ E.un R.length σ q < (back σ R S).length := by
  have key : (back σ R S)[E.un R.length σ q]? = some ((S[q]).un R.length σ) ∧ (W.back V R.length σ).hs (E.un R.length σ q) = V.hs q ∧ (∀ b, (W.back V R.length σ).fs (E.un R.length σ q) b ↔ V.fs q b) := by
    unfold E.un
    cases hs : σ[q]? with
    | some i =>
      have hi := hlt i (List.mem_of_getElem? hs)
      have hx := ix_of hd hs
      simp only
      rw [back_old hi, hx]
      simp only [List.getElem?_eq_getElem hq, Option.getD_some, Wit.back, hi, if_true, hx, true_and]
      exact fun _ => trivial
    | none =>
      have hm : σ.length ≤ q := List.getElem?_eq_none_iff.1 hs
      simp only
      rw [back_new, show σ.length + (q - σ.length) = q by omega, List.getElem?_eq_getElem hq]
      refine ⟨rfl, ?_, fun b => ?_⟩
      · simp only [Wit.back, show ¬ R.length + (q - σ.length) < R.length by omega, if_false]
        rw [show σ.length + (R.length + (q - σ.length) - R.length) = q by omega]
      · simp only [Wit.back, show ¬ R.length + (q - σ.length) < R.length by omega, if_false]
        rw [show σ.length + (R.length + (q - σ.length) - R.length) = q by omega]
  refine ⟨key.1, key.2.1, key.2.2, ?_⟩
  rcases Nat.lt_or_ge (E.un R.length σ q) (back σ R S).length with h | h
  · exact h
  · have := key.1; rw [List.getElem?_eq_none h] at this; cases this

theorem un_back (hd : σ.Nodup) (hlt : ∀ i ∈ σ, i < R.length) (hl : σ.length ≤ S.length) {i : Nat} {r : Res} (h : (back σ R S)[i]? = some r) :
    (i < R.length ∧ ix σ i = none ∧ R[i]? = some r ∧ (W.back V R.length σ).hs i = W.hs i ∧ ∀ b, (W.back V R.length σ).fs i b ↔ W.fs i b) ∨ ∃ q, ∃ hq : q < S.length, i = E.un R.length σ q ∧ r = (S[q]).un R.length σ := by
  rcases Nat.lt_or_ge i R.length with hi | hi
  · rw [back_old hi] at h
    cases hx : ix σ i with
    | none =>
      rw [hx] at h
      exact .inl ⟨hi, rfl, h, by simp [Wit.back, hi, hx], fun b => by simp [Wit.back, hi, hx]⟩
    | some q =>
      rw [hx] at h
      have hg := ix_get hx
      have hq : q < σ.length := by
        rcases Nat.lt_or_ge q σ.length with h' | h'
        · exact h'
        · rw [List.getElem?_eq_none h'] at hg; cases hg
      refine .inr ⟨q, by omega, by simp [E.un, hg], ?_⟩
      simp only at h
      rw [List.getElem?_eq_getElem (show q < S.length by omega)] at h
      exact (Option.some.inj h).symm
  · have e : i = R.length + (i - R.length) := by omega
    rw [e, back_new] at h
    cases hs : S[σ.length + (i - R.length)]? with
    | none => rw [hs] at h; cases h
    | some s =>
      rw [hs] at h
      have hq : σ.length + (i - R.length) < S.length := by
        rcases Nat.lt_or_ge (σ.length + (i - R.length)) S.length with h' | h'
        · exact h'
        · rw [List.getElem?_eq_none h'] at hs; cases hs
      refine .inr ⟨_, hq, ?_, ?_⟩
      · unfold E.un
        rw [List.getElem?_eq_none (by omega)]
        simp only
        omega
      · rw [List.getElem?_eq_getElem hq] at hs
        rw [Option.some.inj hs]
        exact (Option.some.inj h).symm

theorem AR.un (hd : σ.Nodup) (hlt : ∀ i ∈ σ, i < R.length) (hl : σ.length ≤ S.length) {cs : List AC} {vs : List Value} (h : AR V S w cs vs) : AC.own.owns cs = true → AR (W.back V R.length σ) (back σ R S) w (AC.un.uns R.length σ cs) vs := by
  induction h with
  | nil => intro _; exact .nil
  | sc h1 _ ih => intro ho; exact .sc h1 (ih (by simpa [AC.own.owns, AC.own] using ho))
  | any h1 _ ih => intro ho; exact .any h1 (ih (by simpa [AC.own.owns, AC.own] using ho))
  | ro h1 _ ih => intro ho; simp [AC.own.owns, AC.own] at ho
  | rp b o inner h1 h2 h3 h4 _ ih => intro ho; simp [AC.own.owns, AC.own] at ho
  | fn _ _ ih1 ih2 =>
    intro ho
    simp only [AC.own.owns, AC.own, Bool.and_eq_true] at ho
    exact .fn (ih1 ho.1) (ih2 ho.2)
  | sl h1 h2 h3 _ ih =>
    intro ho
    obtain ⟨u1, u2, _, u4⟩ := un_at (W := W) (V := V) hd hlt h2
    refine .sl h1 u4 (fun e k rows hr => ?_) (ih (by simpa [AC.own.owns, AC.own] using ho))
    rw [u1] at hr
    rw [u2]
    exact h3 e k rows (by rw [List.getElem?_eq_getElem h2, Res.un_row (Option.some.inj hr).symm])
  | ep h1 h2 h3 _ ih =>
    intro ho
    obtain ⟨u1, u2, _, u4⟩ := un_at (W := W) (V := V) hd hlt h2
    refine .ep h1 u4 (fun e k rows hr => ?_) (ih (by simpa [AC.own.owns, AC.own] using ho))
    rw [u1] at hr
    rw [u2]
    exact h3 e k rows (by rw [List.getElem?_eq_getElem h2, Res.un_row (Option.some.inj hr).symm])
  | bp h1 h2 h3 _ ih =>
    intro ho
    obtain ⟨u1, u2, _, u4⟩ := un_at (W := W) (V := V) hd hlt h2
    refine .bp h1 u4 (fun xs hr => ?_) (ih (by simpa [AC.own.owns, AC.own] using ho))
    rw [u1] at hr
    obtain ⟨ys, e, _⟩ := Res.un_box (Option.some.inj hr).symm
    rw [u2]
    exact h3 ys (by rw [List.getElem?_eq_getElem h2, e])

theorem AVR.un (hd : σ.Nodup) (hlt : ∀ i ∈ σ, i < R.length) (hl : σ.length ≤ S.length) {x : AV} {v : Value} (h : AVR V S w x v) (ho : x.own = true) : AVR (W.back V R.length σ) (back σ R S) w (x.un R.length σ) v := by
  cases x with
  | c x => exact AR.un hd hlt hl (show AR V S w [x] [v] from h) (by simpa [AC.own.owns, AV.own] using ho)
  | agg xs =>
    obtain ⟨vs, e, h⟩ := h
    exact ⟨vs, e, h.un hd hlt hl ho⟩
  | tup xs =>
    obtain ⟨us, e, hl', h⟩ := h
    refine ⟨us, e, by simp [hl'], fun i y u h1 h2 => ?_⟩
    rw [List.getElem?_map] at h1
    cases hy : xs[i]? with
    | none => rw [hy] at h1; cases h1
    | some z =>
      rw [hy] at h1
      obtain rfl := Option.some.inj h1
      obtain ⟨vs, e1, e2⟩ := h i z u hy h2
      have hz : AC.own.owns z.2 = true := by
        simp only [AV.own, List.all_eq_true] at ho
        exact ho z (List.mem_of_getElem? hy)
      exact ⟨vs, e1, e2.un hd hlt hl hz⟩
  | any => trivial
end

/-- A callee that was shown over some of the resources goes under all. -/
theorem EFn.frame' {P : Program} {f : FuncId} {args args' : List AV} {R Rs : List Res} {Q : AV → List Res → Prop} (σ : List Nat) (ho : okσ 0 R σ = true) (hR : reR 0 σ R = Rs) (ha : args.map (AV.sub R σ) = args') (h : EFn P f args' Rs Q) (hq : ∀ r S, Q r S → r.own = true ∧ S.all Res.own = true) :
    EFn P f args R (fun r R' => ∃ r0 S, Q r0 S ∧ r = r0.un R.length σ ∧ R' = back σ R S) := by
  subst hR
  subst ha
  intro w W vals hv hs
  obtain ⟨hd, hin⟩ := okσ_parts ho
  have hlt : ∀ i ∈ σ, i < R.length := fun i hi => (hin i hi).2
  have hv0 : AVs (W.ren 0 σ) (reR 0 σ R) w (args.map (AV.sub R σ)) vals := by
    refine ⟨by simp [hv.1], fun i x v hx hu => ?_⟩
    rw [List.getElem?_map] at hx
    cases hy : args[i]? with
    | none => rw [hy] at hx; cases hx
    | some y =>
      rw [hy] at hx
      obtain rfl := Option.some.inj hx
      exact (hv.2 i y v hy hu).sub hs ho
  have hs0 : Sep w (W.ren 0 σ) (reR 0 σ R) := hs.ren (Nat.zero_le _) ho
  refine (h w (W.ren 0 σ) vals hv0 hs0).mono ?_
  rintro e w' ⟨r, S, V, k1, ⟨v, rfl, k2⟩, k3, k4⟩
  obtain ⟨q1, q2⟩ := hq r S k1
  have hRl : (reR 0 σ R).length = σ.length := by rw [reR_len (Nat.zero_le _)]; simp
  have hl : σ.length ≤ S.length := by rw [← hRl]; exact k4.len
  have hout : ∀ b, W.out w b → (W.ren 0 σ).out w b := fun b hb => ⟨hb.1, fun q hq' => by
    obtain ⟨p, h1, _⟩ := Wit.ren_sub q b hq'
    exact hb.2 p h1⟩
  have hother : ∀ i, ix σ i = none → ∀ b, W.fs i b → (W.ren 0 σ).out w b := fun i hi b hb => ⟨hs.lt i b hb, fun q hq' => by
    obtain ⟨p, h1, _, h3⟩ := Wit.ren_sub q b hq'
    have e := hs.apart i p b hb h1
    subst e
    have := h3 (by omega)
    rw [show q - 0 = q by omega] at this
    exact AR.sub.ix_none hi (List.mem_of_getElem? this)⟩
  have hVlt : ∀ q b, V.fs q b → q < S.length := fun q b hb => by
    rcases Nat.lt_or_ge q S.length with h' | h'
    · exact h'
    · exact absurd hb (k3.out q h' b)
  have hVown : ∀ q b, V.fs q b → (∃ j, j ∈ σ ∧ W.fs j b) ∨ w.heap.size ≤ b := fun q b hb => by
    rcases k4.own q b hb with ⟨j, hj⟩ | hj
    · obtain ⟨p, h1, _, h3⟩ := Wit.ren_sub j b hj
      exact .inl ⟨p, List.mem_of_getElem? (h3 (by omega)), h1⟩
    · exact .inr hj
  -- which resource has a block behind the call
  have hfs : ∀ i b, (W.back V R.length σ).fs i b → (i < R.length ∧ ix σ i = none ∧ W.fs i b) ∨ ∃ q, i = E.un R.length σ q ∧ V.fs q b := fun i b hb => by
    simp only [Wit.back] at hb
    split at hb
    · rename_i hi
      cases hx : ix σ i with
      | none => rw [hx] at hb; exact .inl ⟨hi, rfl, hb⟩
      | some q => rw [hx] at hb; exact .inr ⟨q, by simp [E.un, ix_get hx], hb⟩
    · rename_i hi
      refine .inr ⟨_, ?_, hb⟩
      unfold E.un
      rw [List.getElem?_eq_none (by omega)]
      simp only
      omega
  have tr : Trans w W R w' (W.back V R.length σ) (back σ R S) := by
    refine ⟨k4.os, k4.tape, k4.output, k4.size, fun b hb => k4.frame b (hout b hb), fun i b hb => ?_, fun i => ?_⟩
    · rcases hfs i b hb with ⟨_, _, h1⟩ | ⟨q, _, h1⟩
      · exact .inl ⟨i, h1⟩
      · rcases hVown q b h1 with ⟨j, _, hj⟩ | hj
        · exact .inl ⟨j, hj⟩
        · exact .inr hj
    · rcases Nat.lt_or_ge i R.length with hi | hi
      · rw [back_old hi]
        cases hx : ix σ i with
        | none =>
          have : (W.back V R.length σ).hs i = W.hs i := by simp [Wit.back, hi, hx]
          rw [this]; exact Goes.refl _ _
        | some q =>
          have hg := ix_get hx
          have hqm : q < σ.length := by
            rcases Nat.lt_or_ge q σ.length with h' | h'
            · exact h'
            · rw [List.getElem?_eq_none h'] at hg; cases hg
          have hw : (W.back V R.length σ).hs i = V.hs q := by simp [Wit.back, hi, hx]
          have h0 := k4.goes q
          have e1 : (reR 0 σ R)[q]? = some ((R[i]).ren 0 σ) := by
            have := reR_new (n := 0) (R := R) (Nat.zero_le _) hg
            rw [Nat.zero_add] at this
            rw [this, List.getElem?_eq_getElem hi]; rfl
          have e2 : (W.ren 0 σ).hs q = W.hs i := by simp [Wit.ren, hg]
          rw [e1, e2, List.getElem?_eq_getElem (show q < S.length by omega)] at h0
          rw [hw, List.getElem?_eq_getElem hi]
          simp only
          rw [List.getElem?_eq_getElem (show q < S.length by omega)]
          simp only [Option.getD_some]
          generalize S[q]'(by omega) = s1 at h0
          generalize R[i] = r1 at h0
          cases r1 <;> cases s1 <;> exact h0
      · rw [List.getElem?_eq_none hi]; exact trivial
  refine ⟨_, _, _, ⟨r, S, k1, rfl, rfl⟩, ⟨v, rfl, k2.un hd hlt hl q1⟩, ?_, tr⟩
  refine ⟨fun i s hi => ?_, fun i hi b hb => ?_, fun i hi b hb => ?_, fun i j b hi hj => ?_, fun i b hb => ?_⟩
  · rcases un_back (W := W) (V := V) hd hlt hl hi with ⟨h1, h2, h3, h4, h5⟩ | ⟨q, hq', rfl, rfl⟩
    · have e : (W.back V R.length σ).fs i = W.fs i := funext fun b => propext (h5 b)
      rw [h4, e]
      exact (hs.res i s h3).next tr fun b hb => k4.frame b (hother i h2 b hb)
    · obtain ⟨_, u2, u3, _⟩ := un_at (W := W) (V := V) hd hlt hq'
      have e : (W.back V R.length σ).fs (E.un R.length σ q) = V.fs q := funext fun b => propext (u3 b)
      rw [u2, e]
      have hr0 := k3.res q _ (List.getElem?_eq_getElem hq')
      have hown : Res.own (S[q]) = true := List.all_eq_true.1 q2 _ (List.getElem_mem hq')
      generalize S[q] = s1 at hr0 hown
      cases s1 with
      | box cs =>
        obtain ⟨b, arr, e', f1, f2, f3, f4⟩ := hr0
        exact ⟨b, arr, e', f1, f2, f3, f4.un hd hlt hl hown⟩
      | row e' k rows => exact hr0
      | gone => trivial
  · rcases hfs i b hb with ⟨h1, _, _⟩ | ⟨q, rfl, h1⟩
    · have := backR_len R.length σ S R 0
      unfold back at hi
      rw [List.length_append, this] at hi
      omega
    · obtain ⟨_, _, _, u4⟩ := un_at (W := W) (V := V) hd hlt (hVlt q b h1)
      omega
  · rcases un_back (W := W) (V := V) hd hlt hl hi with ⟨h1, h2, h3, h4, h5⟩ | ⟨q, hq', rfl, e⟩
    · exact hs.gone i h3 b ((h5 b).1 hb)
    · obtain ⟨_, _, u3, _⟩ := un_at (W := W) (V := V) hd hlt hq'
      have := Res.un_gone e
      exact k3.gone q (by rw [List.getElem?_eq_getElem hq', this]) b ((u3 b).1 hb)
  · rcases hfs i b hi with ⟨_, h2, h3⟩ | ⟨q, rfl, h3⟩ <;> rcases hfs j b hj with ⟨_, g2, g3⟩ | ⟨p, rfl, g3⟩
    · exact hs.apart i j b h3 g3
    · rcases hVown p b g3 with ⟨m, hm, hm2⟩ | hm
      · have := hs.apart i m b h3 hm2
        subst this
        exact absurd hm (AR.sub.ix_none h2)
      · exact absurd (hs.lt i b h3) (by omega)
    · rcases hVown q b h3 with ⟨m, hm, hm2⟩ | hm
      · have := hs.apart j m b g3 hm2
        subst this
        exact absurd hm (AR.sub.ix_none g2)
      · exact absurd (hs.lt j b g3) (by omega)
    · rw [k3.apart q p b h3 g3]
  · rcases hfs i b hb with ⟨_, _, h3⟩ | ⟨q, _, h3⟩
    · exact Nat.lt_of_lt_of_le (hs.lt i b h3) k4.size
    · exact k3.lt q b h3

theorem slOk_of {R : List Res} {i off len tot e k : Nat} {rows : List (List T)} (hR : R[i]? = some (.row e k rows)) (hl : rows.length = tot) : slOk R (.c (.sl i off len tot)) = true := by simp [slOk, hR, hl]
theorem ptrOk_of {R : List Res} {i j off tot e k : Nat} {rows : List (List T)} (hR : R[i]? = some (.row e k rows)) (hl : rows.length = tot) : ptrOk R (.c (.ep i j off tot)) = true := by simp [ptrOk, hR, hl]
theorem subC_whole {R : List Res} {σ : List Nat} {i e k n : Nat} {rows : List (List T)} (hR : R[i]? = some (.row e k rows)) (hn : rows.length = n) (hx : ix σ i = none := by rfl) : AC.sub R σ (.sl i 0 n n) = .ro rows := by
  simp [AC.sub, hx, hR, hn, List.take_of_length_le (Nat.le_of_eq hn)]
theorem sub_whole {R : List Res} {σ : List Nat} {i e k n : Nat} {rows : List (List T)} (hR : R[i]? = some (.row e k rows)) (hn : rows.length = n) (hx : ix σ i = none := by rfl) : AV.sub R σ (.c (.sl i 0 n n)) = .c (.ro rows) := by
  simp [AV.sub, subC_whole hR hn hx]

end Go.Proofs.Ytkaikajjhhnifaa.E
