/- Words of the session's own, eighth part: resources told anew; what a function comes to. -/
import Derived.Test.YtkaikajjhhnifaaE7
namespace Go.Proofs.Ytkaikajjhhnifaa.E
open Go Go.RowKit
set_option linter.unusedVariables false
set_option linter.unusedSimpArgs false

section
variable {w : World} {W : Wit} {R : List Res} {n : Nat} {σ : List Nat}

theorem nodup_inj : ∀ {l : List Nat}, l.Nodup → ∀ {a b x : Nat}, l[a]? = some x → l[b]? = some x → a = b
  | [], _, a, b, x, h, _ => by simp at h
  | y :: l, hn, a, b, x, h, h' => by
    obtain ⟨h1, h2⟩ := List.nodup_cons.1 hn
    cases a with
    | zero =>
      obtain rfl : y = x := by simpa using h
      cases b with
      | zero => rfl
      | succ b => exact absurd (List.mem_of_getElem? (show l[b]? = some y by simpa using h')) h1
    | succ a =>
      cases b with
      | zero =>
        obtain rfl : y = x := by simpa using h'
        exact absurd (List.mem_of_getElem? (show l[a]? = some y by simpa using h)) h1
      | succ b => rw [nodup_inj h2 (show l[a]? = some x by simpa using h) (show l[b]? = some x by simpa using h')]

theorem okσ_parts (h : okσ n R σ = true) : σ.Nodup ∧ ∀ i ∈ σ, n ≤ i ∧ i < R.length := by
  unfold okσ at h
  simp only [Bool.and_eq_true, decide_eq_true_eq, List.all_eq_true] at h
  exact h

theorem Wit.ren_hs (i : Nat) (hi : i < n) : (W.ren n σ).hs i = W.hs i := by simp [Wit.ren, hi]
theorem Wit.ren_hs_new {q i : Nat} (hq : σ[q]? = some i) : (W.ren n σ).hs (n + q) = W.hs i := by simp [Wit.ren, show ¬ n + q < n by omega, show n + q - n = q by omega, hq]
theorem Wit.ren_fs {i : Nat} (hi : i < n) (b : Nat) : (W.ren n σ).fs i b ↔ W.fs i b := by simp [Wit.ren, hi]
theorem Wit.ren_fs_new {q i : Nat} (hq : σ[q]? = some i) (b : Nat) : (W.ren n σ).fs (n + q) b ↔ W.fs i b := by simp [Wit.ren, show ¬ n + q < n by omega, show n + q - n = q by omega, hq]
theorem Wit.ren_sub (i b : Nat) (h : (W.ren n σ).fs i b) : ∃ j, W.fs j b ∧ (i < n → j = i) ∧ (¬ i < n → σ[i - n]? = some j) := by
  unfold Wit.ren at h
  simp only at h
  split at h
  · rename_i hi; exact ⟨i, h, fun _ => rfl, fun h' => absurd hi h'⟩
  · rename_i hi
    split at h
    · rename_i q hq; exact ⟨q, h, fun h' => absurd h' hi, fun _ => hq⟩
    · exact h.elim

theorem Wit.ren_out {b : Nat} (h : W.out w b) : (W.ren n σ).out w b := ⟨h.1, fun i hi => by obtain ⟨j, hj, _⟩ := Wit.ren_sub i b hi; exact h.2 j hj⟩

theorem Res.ren_row {r : Res} {e k : Nat} {rows : List (List T)} (h : r.ren n σ = .row e k rows) : r = .row e k rows := by cases r <;> first | exact h | cases h
theorem Res.ren_box {r : Res} {xs : List AC} (h : r.ren n σ = .box xs) : ∃ ys, r = .box ys ∧ xs = AC.ren.rens n σ ys := by
  cases r with
  | box ys => exact ⟨ys, rfl, by cases h; rfl⟩
  | row e k rows => cases h
  | gone => cases h
theorem Res.ren_gone {r : Res} (h : r.ren n σ = .gone) : r = .gone := by cases r <;> first | exact h | cases h

/-- What stands at a place behind the telling anew. -/
theorem reR_back (hn : n ≤ R.length) (ho : okσ n R σ = true) {i : Nat} {r : Res} (h : (reR n σ R)[i]? = some r) :
    ∃ j r0, R[j]? = some r0 ∧ r = r0.ren n σ ∧ (W.ren n σ).hs i = W.hs j ∧ (∀ b, (W.ren n σ).fs i b ↔ W.fs j b) ∧ (i < n → j = i) ∧ (¬ i < n → σ[i - n]? = some j) := by
  obtain ⟨h1, h2⟩ := okσ_parts ho
  by_cases hi : i < n
  · rw [reR_at hn hi] at h
    cases hr : R[i]? with
    | none => rw [hr] at h; cases h
    | some r0 =>
      rw [hr] at h
      exact ⟨i, r0, hr, (Option.some.inj h).symm, Wit.ren_hs i hi, Wit.ren_fs hi, fun _ => rfl, fun h' => absurd hi h'⟩
  · have hlt : i < n + σ.length := by
      rw [← reR_len hn]
      rcases Nat.lt_or_ge i (reR n σ R).length with h' | h'
      · exact h'
      · rw [List.getElem?_eq_none h'] at h; cases h
    have hq : σ[i - n]? = some σ[i - n] := List.getElem?_eq_getElem (by omega)
    have hj := h2 _ (List.mem_of_getElem? hq)
    have := reR_new (R := R) hn hq
    rw [show n + (i - n) = i by omega] at this
    rw [this] at h
    rw [List.getElem?_eq_getElem hj.2, Option.getD_some] at h
    refine ⟨_, _, List.getElem?_eq_getElem hj.2, (Option.some.inj h).symm, ?_, ?_, fun h' => absurd h' hi, fun _ => hq⟩
    · have := Wit.ren_hs_new (W := W) (n := n) hq; rwa [show n + (i - n) = i by omega] at this
    · have := Wit.ren_fs_new (W := W) (n := n) hq; rwa [show n + (i - n) = i by omega] at this

theorem AR.ren (hn : n ≤ R.length) (ho : okσ n R σ = true) {cs : List AC} {vs : List Value} (h : AR W R w cs vs) : AR (W.ren n σ) (reR n σ R) w (AC.ren.rens n σ cs) vs := by
  have hlen := reR_len (σ := σ) hn
  have at_old : ∀ {i : Nat}, i < n → ∀ {r : Res}, (reR n σ R)[i]? = some r → ∃ r0, R[i]? = some r0 ∧ r = r0.ren n σ ∧ (W.ren n σ).hs i = W.hs i := fun {i} hi {r} hr => by
    obtain ⟨j, r0, h1, h2, h3, _, h5, _⟩ := reR_back (W := W) hn ho hr
    obtain rfl := h5 hi
    exact ⟨r0, h1, h2, h3⟩
  have at_new : ∀ {i q : Nat}, ix σ i = some q → ∀ {r : Res}, (reR n σ R)[n + q]? = some r → ∃ r0, R[i]? = some r0 ∧ r = r0.ren n σ ∧ (W.ren n σ).hs (n + q) = W.hs i := fun {i q} hq {r} hr => by
    obtain ⟨j, r0, h1, h2, h3, _, _, h6⟩ := reR_back (W := W) hn ho hr
    have := h6 (by omega)
    rw [show n + q - n = q by omega, ix_get hq] at this
    obtain rfl := Option.some.inj this
    exact ⟨r0, h1, h2, h3⟩
  have lt_new : ∀ {i q : Nat}, ix σ i = some q → n + q < (reR n σ R).length := fun {i q} hq => by
    rw [hlen]
    have := ix_get hq
    rcases Nat.lt_or_ge q σ.length with h' | h'
    · omega
    · rw [List.getElem?_eq_none h'] at this; cases this
  induction h with
  | nil => exact .nil
  | sc h1 _ ih => exact .sc h1 ih
  | any h1 _ ih => exact .any h1 ih
  | ro h1 _ ih => exact .ro (h1.mono fun b hb => ⟨Wit.ren_out hb, rfl⟩) ih
  | rp b o inner h1 h2 h3 h4 _ ih => exact .rp b o inner h1 (Wit.ren_out h2) (h3.mono fun b hb => ⟨Wit.ren_out hb, rfl⟩) h4 ih
  | fn _ _ ih1 ih2 => exact .fn ih1 ih2
  | @sl i off len tot v cs vs h1 h2 h3 _ ih =>
    simp only [AC.ren.rens, AC.ren]
    split
    · rename_i hi
      refine .sl h1 (by omega) (fun e k rows hr => ?_) ih
      obtain ⟨r0, e1, e2, e3⟩ := at_old hi hr
      rw [Res.ren_row e2.symm] at e1
      rw [e3]; exact h3 e k rows e1
    · split
      · rename_i q hq
        refine .sl h1 (lt_new hq) (fun e k rows hr => ?_) ih
        obtain ⟨r0, e1, e2, e3⟩ := at_new hq hr
        rw [Res.ren_row e2.symm] at e1
        rw [e3]; exact h3 e k rows e1
      · exact .any h1 ih
  | @ep i j off tot v cs vs h1 h2 h3 _ ih =>
    simp only [AC.ren.rens, AC.ren]
    split
    · rename_i hi
      refine .ep h1 (by omega) (fun e k rows hr => ?_) ih
      obtain ⟨r0, e1, e2, e3⟩ := at_old hi hr
      rw [Res.ren_row e2.symm] at e1
      rw [e3]; exact h3 e k rows e1
    · split
      · rename_i q hq
        refine .ep h1 (lt_new hq) (fun e k rows hr => ?_) ih
        obtain ⟨r0, e1, e2, e3⟩ := at_new hq hr
        rw [Res.ren_row e2.symm] at e1
        rw [e3]; exact h3 e k rows e1
      · exact .any h1 ih
  | @bp i off v cs vs h1 h2 h3 _ ih =>
    simp only [AC.ren.rens, AC.ren]
    split
    · rename_i hi
      refine .bp h1 (by omega) (fun xs hr => ?_) ih
      obtain ⟨r0, e1, e2, e3⟩ := at_old hi hr
      obtain ⟨ys, rfl, _⟩ := Res.ren_box e2.symm
      rw [e3]; exact h3 ys e1
    · split
      · rename_i q hq
        refine .bp h1 (lt_new hq) (fun xs hr => ?_) ih
        obtain ⟨r0, e1, e2, e3⟩ := at_new hq hr
        obtain ⟨ys, rfl, _⟩ := Res.ren_box e2.symm
        rw [e3]; exact h3 ys e1
      · exact .any h1 ih

theorem Sep.ren (hs : Sep w W R) (hn : n ≤ R.length) (ho : okσ n R σ = true) : Sep w (W.ren n σ) (reR n σ R) := by
  obtain ⟨g1, g2⟩ := okσ_parts ho
  refine ⟨fun i r hr => ?_, fun i hi b hb => ?_, fun i hi b hb => ?_, fun i j b hi hj => ?_, fun i b hb => ?_⟩
  · obtain ⟨j, r0, h1, rfl, h3, h4, _⟩ := reR_back (W := W) hn ho hr
    have := hs.res j r0 h1
    rw [h3]
    cases r0 with
    | box cs =>
      obtain ⟨b, arr, e, f1, f2, f3, f4⟩ := this
      exact ⟨b, arr, e, f1, fun x => (h4 x).trans (f2 x), f3, f4.ren hn ho⟩
    | row e k rows =>
      obtain ⟨f1, f2, cells, G, f3, f4, f5, f6⟩ := this
      exact ⟨f1, f2, cells, G, f3, f4, f5, fun b => (h4 b).trans (f6 b)⟩
    | gone => trivial
  · rw [reR_len hn] at hi
    obtain ⟨j, _, _, h3⟩ := Wit.ren_sub i b hb
    have := h3 (by omega)
    rw [List.getElem?_eq_none (by omega)] at this
    cases this
  · obtain ⟨j, r0, h1, h2, h3, h4, _⟩ := reR_back (W := W) hn ho hi
    rw [Res.ren_gone h2.symm] at h1
    exact hs.gone j h1 b ((h4 b).1 hb)
  · obtain ⟨p, h1, h2, h3⟩ := Wit.ren_sub i b hi
    obtain ⟨q, k1, k2, k3⟩ := Wit.ren_sub j b hj
    have e := hs.apart p q b h1 k1
    subst e
    by_cases hin : i < n
    · by_cases hjn : j < n
      · have := h2 hin; have := k2 hjn; omega
      · have e1 := h2 hin
        have := g2 p (List.mem_of_getElem? (k3 hjn))
        omega
    · by_cases hjn : j < n
      · have e1 := k2 hjn
        have := g2 p (List.mem_of_getElem? (h3 hin))
        omega
      · have e1 := h3 hin
        have e2 := k3 hjn
        have := nodup_inj g1 e1 e2
        omega
  · obtain ⟨j, h1, _⟩ := Wit.ren_sub i b hb
    exact hs.lt j b h1

theorem AVR.ren {x : AV} {v : Value} (hx : AVR W R w x v) (hn : n ≤ R.length) (ho : okσ n R σ = true) : AVR (W.ren n σ) (reR n σ R) w (x.ren n σ) v := by
  cases x with
  | c x =>
    have h : AR W R w [x] [v] := hx
    exact h.ren hn ho
  | agg xs =>
    obtain ⟨vs, e, h⟩ := hx
    exact ⟨vs, e, h.ren hn ho⟩
  | tup xs =>
    obtain ⟨us, e, hl, h⟩ := hx
    refine ⟨us, e, by simp [hl], fun i y u h1 h2 => ?_⟩
    rw [List.getElem?_map] at h1
    cases hy : xs[i]? with
    | none => rw [hy] at h1; cases h1
    | some z =>
      rw [hy] at h1
      obtain rfl := Option.some.inj h1
      obtain ⟨vs, e1, e2⟩ := h i z u hy h2
      exact ⟨vs, e1, e2.ren hn ho⟩
  | any => trivial

theorem Goes.ren {v v' : Value} : ∀ {a b : Option Res}, Goes v v' a b → Goes v v' a (b.map (Res.ren n σ))
  | none, _, _ => trivial
  | some (.box _), some (.box _), h => h
  | some (.row _ _ _), some (.row _ _ _), h => h
  | some (.box _), some .gone, _ => trivial
  | some (.row _ _ _), some .gone, _ => trivial
  | some .gone, some .gone, _ => trivial

theorem Trans.ren {w0 : World} {W0 : Wit} {R0 : List Res} (h : Trans w0 W0 R0 w W R) (hn : R0.length = n) (ho : okσ n R σ = true) : Trans w0 W0 R0 w (W.ren n σ) (reR n σ R) := by
  have hl := h.len
  refine ⟨h.os, h.tape, h.output, h.size, h.frame, fun i b hb => ?_, fun i => ?_⟩
  · obtain ⟨j, hj, _⟩ := Wit.ren_sub i b hb
    exact h.own j b hj
  · rcases Nat.lt_or_ge i n with hi | hi
    · rw [reR_at (by omega) hi, Wit.ren_hs i hi]
      exact (h.goes i).ren
    · rw [List.getElem?_eq_none (by omega)]; exact trivial
end

/-! ### What a function comes to -/
def rv1 (P : Program) (R : List Res) (s : Slots) : ResultVar → AV
  | .tmp t => get s t
  | .cell a t => (ldv P R t (get s a)).getD .any

def comp : AV → Option (Bool × List AC)
  | .c x => some (false, [x])
  | .agg xs => some (true, xs)
  | _ => none

def okR (P : Program) (R : List Res) (s : Slots) : ResultVar → Bool
  | .tmp _ => true
  | .cell a t => (ldv P R t (get s a)).isSome

def resv (P : Program) (R : List Res) (s : Slots) (rs : List ResultVar) : Option AV :=
  if rs.all (okR P R s) then match rs with
    | [r] => some (rv1 P R s r)
    | rs => (rs.mapM fun r => comp (rv1 P R s r)).map .tup
  else none

theorem rv1_run {P : Program} {N : Nat} {s : Slots} {R : List Res} {a : Act} {w : World} {W : Wit} (hn : Now N s R a w W) {r : ResultVar} (ho : okR P R s r = true) :
    ∃ v, (match r with | .tmp t => pure (a.tmps.getD t undef) | .cell p t => do loadVar t (← asAddr (a.tmps.getD p undef)) : Sem Value).run P w = .ok v w ∧ AVR W R w (rv1 P R s r) v := by
  cases r with
  | tmp t => exact ⟨_, rfl, hn.val t⟩
  | cell p t =>
    simp only [okR] at ho
    cases hl : ldv P R t (get s p) with
    | none => rw [hl] at ho; cases ho
    | some y =>
      obtain ⟨agg, n, b, o, vs, h1, h2, h3, h4, h5, h6⟩ := ldv_cells hn.sep (hn.val p) hl
      refine ⟨asV agg vs, ?_, by simp only [rv1, hl, Option.getD_some]; exact h6⟩
      simp only [h2, asAddr, Sem.run_bind, Sem.run_pure, Result.andThen_ok, run_loadVar_ h1 vs h3 h4 h5]

theorem rvs_run {P : Program} {N : Nat} {s : Slots} {R : List Res} {a : Act} {w : World} {W : Wit} (hn : Now N s R a w W) : ∀ {rs : List ResultVar}, rs.all (okR P R s) = true →
    ∃ vs, (rs.mapM fun r => (match r with | .tmp t => pure (a.tmps.getD t undef) | .cell p t => do loadVar t (← asAddr (a.tmps.getD p undef)) : Sem Value)).run P w = .ok vs w ∧ AVs W R w (rs.map (rv1 P R s)) vs
  | [], _ => ⟨[], by simp, rfl, by simp⟩
  | r :: rs, h => by
    simp only [List.all_cons, Bool.and_eq_true] at h
    obtain ⟨v, h1, h2⟩ := rv1_run hn h.1
    obtain ⟨vs, h3, h4⟩ := rvs_run hn h.2
    refine ⟨v :: vs, ?_, by simp [h4.1], fun i x u hx hu => ?_⟩
    · rw [List.mapM_cons, Sem.run_bind, h1, Result.andThen_ok, Sem.run_bind, h3]; rfl
    · cases i with
      | zero =>
        obtain rfl : rv1 P R s r = x := by simpa using hx
        obtain rfl : v = u := by simpa using hu
        exact h2
      | succ i => exact h4.2 i x u (by simpa using hx) (by simpa using hu)

theorem resv_run {P : Program} {N : Nat} {s : Slots} {R : List Res} {a : Act} {w : World} {W : Wit} {fn : Func} {y : AV} (hn : Now N s R a w W) (h : resv P R s fn.results.toList = some y) :
    ∃ v, (results fn a.tmps).run P w = .ok v w ∧ AVR W R w y v := by
  unfold resv at h
  split at h
  · rename_i hall
    obtain ⟨vs, h1, h2, h3⟩ := rvs_run (P := P) hn hall
    have hrun : (results fn a.tmps).run P w = .ok (if h : vs.toArray.size = 1 then vs.toArray[0] else .tuple vs.toArray) w := by
      unfold results
      rw [Array.mapM_eq_mapM_toList]
      simp only [Sem.run_bind, Sem.run_map, Sem.run_pure]
      exact congrArg (fun z => Result.andThen (Result.andThen z (fun (l : List Value) w' => Result.ok l.toArray w')) (fun (b : Array Value) w' => Result.ok (if h : b.size = 1 then b[0] else Value.tuple b) w')) h1
    split at h
    · rename_i r hr
      rw [hr] at h2 h3
      obtain rfl := Option.some.inj h
      match hvs : vs, h2 with
      | [v], _ =>
        subst hvs
        exact ⟨v, by rw [hrun]; rfl, h3 0 _ v rfl rfl⟩
    · rename_i rs hne
      have hlen : vs.length ≠ 1 := by
        intro h1'
        rw [h2, List.length_map] at h1'
        match hq : fn.results.toList, h1' with
        | [r], _ => exact hne r hq
      refine ⟨.tuple vs.toArray, by rw [hrun]; simp [hlen], ?_⟩
      cases hm : (fn.results.toList.mapM fun r => comp (rv1 P R s r)) with
      | none => rw [hm] at h; cases h
      | some cs =>
        rw [hm] at h
        obtain rfl := Option.some.inj h
        have key : ∀ {l : List ResultVar} {cs : List (Bool × List AC)} {vs : List Value}, (l.mapM fun r => comp (rv1 P R s r)) = some cs → AVs W R w (l.map (rv1 P R s)) vs → vs.length = cs.length ∧ ∀ (i : Nat) (x : Bool × List AC) (u : Value), cs[i]? = some x → vs[i]? = some u → CR W R w x u := by
          intro l
          induction l with
          | nil =>
            intro cs vs hm hv
            have e : [] = cs := by simpa using hm
            subst e
            exact ⟨by simpa using hv.1, by simp⟩
          | cons r l ih =>
            intro cs vs hm hv
            rw [List.mapM_cons] at hm
            cases hc : comp (rv1 P R s r) with
            | none => rw [hc] at hm; cases hm
            | some c =>
              rw [hc] at hm
              cases hm2 : (l.mapM fun r => comp (rv1 P R s r)) with
              | none => rw [hm2] at hm; cases hm
              | some cs' =>
                rw [hm2] at hm
                obtain rfl : c :: cs' = cs := by simpa using hm
                match vs, hv with
                | v :: vs, hv =>
                  obtain ⟨k1, k2⟩ := ih hm2 (vs := vs) ⟨by simpa using hv.1, fun i x u hx hu => hv.2 (i + 1) x u (by simpa using hx) (by simpa using hu)⟩
                  refine ⟨by simp [k1], fun i x u hx hu => ?_⟩
                  cases i with
                  | succ i => exact k2 i x u (by simpa using hx) (by simpa using hu)
                  | zero =>
                    obtain rfl : c = x := by simpa using hx
                    obtain rfl : v = u := by simpa using hu
                    have := hv.2 0 _ v rfl rfl
                    unfold comp at hc
                    split at hc
                    · rename_i z hz
                      obtain rfl := Option.some.inj hc
                      rw [hz] at this
                      exact ⟨[v], by simp, this⟩
                    · rename_i z hz
                      obtain rfl := Option.some.inj hc
                      rw [hz] at this
                      obtain ⟨us, e1, e2⟩ := this
                      exact ⟨us, by simp [e1], e2⟩
                    · cases hc
                | [], hv => exact absurd hv.1 (by simp)
        obtain ⟨k1, k2⟩ := key hm ⟨h2, h3⟩
        exact ⟨vs, rfl, k1, k2⟩
  · cases h

def slotsOf : Nat → List AV → Slots
  | _, [] => []
  | i, x :: xs => (i, x) :: slotsOf (i + 1) xs

theorem get_slotsOf : ∀ (xs : List AV) (i t : Nat), get (slotsOf i xs) t = if i ≤ t then (xs[t - i]?).getD .any else .any
  | [], i, t => by simp [slotsOf, get]
  | x :: xs, i, t => by
    simp only [slotsOf, get, get_slotsOf xs (i + 1) t]
    by_cases h : i = t
    · subst h; simp
    · rw [if_neg h]
      by_cases h2 : i ≤ t
      · rw [if_pos h2, if_pos (by omega), show t - i = (t - (i + 1)) + 1 by omega]
        simp
      · rw [if_neg h2, if_neg (by omega)]

/-- What is asked where a function ends. -/
def RetQ (P : Program) (rs : List ResultVar) (n : Nat) (Q : AV → List Res → Prop) : Exit → Slots → List Res → Prop
  | .normal, s, R => ∃ y σ, resv P R s rs = some y ∧ okσ n R σ = true ∧ Q (y.ren n σ) (reR n σ R)
  | .ret, s, R => ∃ y σ, resv P R s rs = some y ∧ okσ n R σ = true ∧ Q (y.ren n σ) (reR n σ R)
  | _, _, _ => False

theorem E_fn {P : Program} {f : FuncId} {fn : Func} {c : Code} {args : List AV} {R : List Res} {Q : AV → List Res → Prop} (hf : P.funcs[f]? = some fn) (hb : fn.body = some c) (ha : args.length ≤ fn.ntmps)
    (h : ECode P fn.ntmps c (slotsOf 0 args) R (RetQ P fn.results.toList R.length Q)) : EFn P f args R Q := by
  intro w W vals hv hs
  have hnow : Now fn.ntmps (slotsOf 0 args) R { tmps := vals.toArray ++ Array.replicate (fn.ntmps - vals.toArray.size) undef, defers := [] } w W := by
    refine ⟨by simp [hv.1]; omega, rfl, fun t => ?_, hs⟩
    rw [get_slotsOf, if_pos (Nat.zero_le _), Nat.sub_zero]
    cases hx : args[t]? with
    | none => exact AVR.any ..
    | some x =>
      have hlt : t < vals.length := by
        rw [hv.1]
        rcases Nat.lt_or_ge t args.length with h' | h'
        · exact h'
        · rw [List.getElem?_eq_none h'] at hx; cases hx
      have hu : vals[t]? = some vals[t] := List.getElem?_eq_getElem hlt
      have := hv.2 t x _ hx hu
      simpa [Array.getD_eq_getD_getElem?, Array.getElem?_append, hlt] using this
  refine calls_of_wp hf hb (wp_mono (h _ w W hnow) fun e a w' hr => ?_)
  obtain ⟨s', R', W', hq, hn', ht⟩ := hr
  have fin : (∃ y σ, resv P R' s' fn.results.toList = some y ∧ okσ R.length R' σ = true ∧ Q (y.ren R.length σ) (reR R.length σ R')) →
      a.defers = [] ∧ ∃ v, (results fn a.tmps).run P w' = .ok v w' ∧ ∃ r R' W', Q r R' ∧ (∃ u, Ending.returned v = .returned u ∧ AVR W' R' w' r u) ∧ Sep w' W' R' ∧ Trans w W R w' W' R' := by
    rintro ⟨y, σ, h1, h2, h3⟩
    obtain ⟨v, k1, k2⟩ := resv_run hn' h1
    have hl := ht.len
    exact ⟨hn'.defers, v, k1, _, _, W'.ren R.length σ, h3, ⟨v, rfl, k2.ren hl h2⟩, hn'.sep.ren hl h2, ht.ren rfl h2⟩
  cases e with
  | normal => exact fin hq
  | ret => exact fin hq
  | exit id => exact hq.elim
  | goto l => exact hq.elim
  | panic ch => exact hq.elim
  | outgrown => exact hq.elim

end Go.Proofs.Ytkaikajjhhnifaa.E
