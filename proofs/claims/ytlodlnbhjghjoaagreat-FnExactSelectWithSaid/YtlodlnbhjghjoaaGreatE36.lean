/- Words of the session's own, thirty-sixth part: a row of one's own, as it stands or cut short, told anew as another one; the old one is gone. -/
import Derived.Test.YtlodlnbhjghjoaaGreatF3
namespace Go.Proofs.YtlodlnbhjghjoaaGreat.E
open Go Go.RowKit
set_option linter.unusedVariables false
set_option linter.unusedSimpArgs false

theorem Ow.noF {w : World} {ts : List T} {vs : List Value} {F : Nat → Prop} (h : Ow w ts vs F) : ts.all isSc = true → ∀ b, ¬ F b := by
  induction h with
  | nil => intro _ b hb; exact hb
  | sc _ _ ih =>
    intro ha
    simp only [List.all_cons, Bool.and_eq_true] at ha
    exact ih ha.2
  | sl e k h1 h2 h3 _ _ h6 h7 ih1 ih2 => intro ha; simp [isSc] at ha

theorem row_cut {w : World} {v : Value} {e k n m : Nat} {cells : List Value} (h : w.ownsRow 0 e k v n cells) (hm : m ≤ n) :
    ∃ u, w.ownsRow 0 e k u m (cells.take (m * k)) ∧ (∀ b, u.ownBlock = some b ↔ v.ownBlock = some b) ∧ u.oneCell' = true ∧ ∀ x, slAt v x k 0 m → x = u := by
  obtain ⟨h1, h2⟩ := h
  have hmk : m * k ≤ n * k := Nat.mul_le_mul_right k hm
  rcases h2 with ⟨rfl, rfl⟩ | ⟨g, cap, cur, rfl, hg, hh, hn, hc, hs, ht⟩
  · obtain rfl : m = 0 := by omega
    refine ⟨.slice none 0 0, ⟨by simp, .inl ⟨rfl, rfl⟩⟩, fun _ => Iff.rfl, rfl, ?_⟩
    rintro x ⟨a, n, c, e1, e2, e3⟩
    cases e1
    rcases e3 with rfl | ⟨_, h0, _⟩
    · rfl
    · omega
  · refine ⟨.slice (some ⟨g, 0, none⟩) m cap, ⟨by rw [List.length_take, h1, Nat.min_eq_left hmk], .inr ⟨g, cap, cur, rfl, hg, hh, by omega, hc, hs, ?_⟩⟩, fun b => Iff.rfl, rfl, ?_⟩
    · rw [← ht, List.take_take, Nat.min_eq_left hmk]
    · rintro x ⟨a, n', c, e1, e2, e3⟩
      cases e1
      rcases e3 with rfl | ⟨_, h0, _⟩
      · simp
      · omega

/-- A row of one's own, its first m elements, as a new resource; the old one is gone. -/
theorem Sep.moved {w : World} {W : Wit} {R : List Res} {q e k m : Nat} {rows : List (List T)} (hs : Sep w W R) (hR : R[q]? = some (.row e k rows)) (ha : rows.flatten.all isSc = true) (hm : m ≤ rows.length) :
    ∃ W1, Trans w W R w W1 (R.set q .gone ++ [Res.row e k (rows.take m)]) ∧ Sep w W1 (R.set q .gone ++ [Res.row e k (rows.take m)]) ∧ ∀ v, slAt (W.hs q) v k 0 m → W1.hs R.length = v ∧ v.oneCell' = true := by
  have hq : q < R.length := by
    rcases Nat.lt_or_ge q R.length with h' | h'
    · exact h'
    · rw [List.getElem?_eq_none h'] at hR; cases hR
  obtain ⟨f1, f2, cells, G, f3, f4, f5, f6⟩ := hs.res q _ hR
  have hG := f4.noF ha
  have hcl := f4.scs_inv ha
  obtain ⟨u, u1, u2, u3, u4⟩ := row_cut f3 hm
  let W1 : Wit := ⟨fun p => if p = R.length then u else W.hs p, fun p b => if p = R.length then (W.hs q).ownBlock = some b else if p = q then False else W.fs p b⟩
  have r0 : (R.set q .gone ++ [Res.row e k (rows.take m)])[R.length]? = some (.row e k (rows.take m)) := by
    rw [List.getElem?_append_right (by simp)]; simp
  have r1 : (R.set q .gone ++ [Res.row e k (rows.take m)])[q]? = some .gone := by
    rw [List.getElem?_append_left (by simpa using hq), List.getElem?_set_self hq]
  have r2 : ∀ p, p < R.length → p ≠ q → (R.set q .gone ++ [Res.row e k (rows.take m)])[p]? = R[p]? := fun p hp hne => by
    rw [List.getElem?_append_left (by simpa using hp), List.getElem?_set_ne (Ne.symm hne)]
  have r3 : ∀ p, R.length < p → (R.set q .gone ++ [Res.row e k (rows.take m)])[p]? = Option.none := fun p hp => List.getElem?_eq_none (by simp; omega)
  have hfs : ∀ p b, W1.fs p b → (p = R.length ∧ W.fs q b) ∨ (p ≠ R.length ∧ p ≠ q ∧ W.fs p b) := fun p b hb => by
    simp only [W1] at hb
    split at hb
    · rename_i h; exact .inl ⟨h, (f6 b).2 (.inl hb)⟩
    · split at hb
      · exact hb.elim
      · rename_i h1 h2; exact .inr ⟨h1, h2, hb⟩
  have tr : Trans w W R w W1 (R.set q .gone ++ [Res.row e k (rows.take m)]) := by
    refine ⟨rfl, rfl, rfl, Nat.le_refl _, fun _ _ => rfl, fun p b hb => ?_, fun p => ?_⟩
    · rcases hfs p b hb with ⟨_, h⟩ | ⟨_, _, h⟩
      · exact .inl ⟨q, h⟩
      · exact .inl ⟨p, h⟩
    · by_cases e1 : p = q
      · subst e1
        rw [hR, r1]; exact trivial
      · rcases Nat.lt_or_ge p R.length with h | h
        · rw [r2 p h e1]
          have : W1.hs p = W.hs p := by simp [W1, Nat.ne_of_lt h]
          rw [this]; exact Goes.refl _ _
        · rw [List.getElem?_eq_none h]; exact trivial
  refine ⟨W1, tr, ⟨fun p r hr => ?_, fun p hp b hb => ?_, fun p hp b hb => ?_, fun p p' b hb hb' => ?_, fun p b hb => ?_⟩, fun v hv => ?_⟩
  · by_cases e0 : p = R.length
    · subst e0
      rw [r0] at hr
      obtain rfl := Option.some.inj hr
      refine ⟨f1, fun r hr => f2 r (List.mem_of_mem_take hr), cells.take (m * k), fun _ => False, ?_, ?_, fun b _ h => h, fun b => ?_⟩
      · have : (rows.take m).length = m := by rw [List.length_take]; omega
        simpa [W1, this] using u1
      · have hfl := flatten_sub f2 0 m
        rw [List.drop_zero, Nat.zero_mul, List.drop_zero, hcl, ← List.map_take] at hfl
        rw [hfl]
        exact Ow.scv fun x hx => f4.one x (List.mem_of_mem_take hx)
      · simp [W1, u2]
    · by_cases e1 : p = q
      · subst e1
        rw [r1] at hr
        obtain rfl := Option.some.inj hr
        trivial
      · have hp : p < R.length := by
          rcases Nat.lt_or_ge p R.length with h | h
          · exact h
          · rw [r3 p (by omega)] at hr; cases hr
        rw [r2 p hp e1] at hr
        have k1 : W1.hs p = W.hs p := by simp [W1, e0]
        have k2 : W1.fs p = W.fs p := by funext b; simp [W1, e0, e1]
        rw [k1, k2]
        exact (hs.res p r hr).next tr fun _ _ => rfl
  · rcases hfs p b hb with ⟨h1, _⟩ | ⟨h1, _, h⟩
    · rw [h1] at hp; simp at hp; omega
    · exact hs.out p (by simp at hp; omega) b h
  · rcases hfs p b hb with ⟨h1, _⟩ | ⟨h1, h2, h⟩
    · rw [h1, r0] at hp; cases hp
    · have hl : p < R.length := by
        rcases Nat.lt_or_ge p R.length with h' | h'
        · exact h'
        · rw [r3 p (by omega)] at hp; cases hp
      rw [r2 p hl h2] at hp
      exact hs.gone p hp b h
  · rcases hfs p b hb with ⟨h1, h⟩ | ⟨h1, h2, h⟩
    · rcases hfs p' b hb' with ⟨g1, g⟩ | ⟨g1, g2, g⟩
      · rw [h1, g1]
      · exact absurd (hs.apart _ _ b g h) g2
    · rcases hfs p' b hb' with ⟨g1, g⟩ | ⟨g1, g2, g⟩
      · exact absurd (hs.apart _ _ b h g) h2
      · exact hs.apart _ _ b h g
  · rcases hfs p b hb with ⟨_, h⟩ | ⟨_, _, h⟩
    · exact hs.lt q b h
    · exact hs.lt p b h
  · obtain rfl := u4 v hv
    exact ⟨by simp [W1], u3⟩

theorem AR.setV {W : Wit} {R : List Res} {w : World} {c' : AC} : ∀ {cs : List AC} {vs : List Value} (j : Nat), AR W R w cs vs → (∀ v, vs[j]? = some v → AR W R w [c'] [v]) → AR W R w (cs.set j c') vs
  | [], vs, j, h, _ => by simpa using h
  | c :: cs, [], j, h, _ => by cases h
  | c :: cs, v :: vs, 0, h, hv => by
    rw [List.set_cons_zero]
    exact AR.cons_mk (hv v rfl) (AR.cons_inv h).2
  | c :: cs, v :: vs, j + 1, h, hv => by
    rw [List.set_cons_succ]
    exact AR.cons_mk (AR.cons_inv h).1 (AR.setV j (AR.cons_inv h).2 fun u hu => hv u (by simpa using hu))

theorem AR.getV {W : Wit} {R : List Res} {w : World} {c : AC} {cs : List AC} {vs : List Value} {j : Nat} {v : Value} (h : AR W R w cs vs) (hc : cs[j]? = some c) (hv : vs[j]? = some v) : AR W R w [c] [v] := by
  have := (h.drop j).take 1
  have e1 : (cs.drop j).take 1 = [c] := by rw [List.take_one, List.head?_drop, hc]; rfl
  have e2 : (vs.drop j).take 1 = [v] := by rw [List.take_one, List.head?_drop, hv]; rfl
  rwa [e1, e2] at this

/-- What a variable's field holds, told as a row of its own. -/
theorem view_move {N : Nat} {s : Slots} {R : List Res} (i j : Nat) {q e k m tot : Nat} {cs : List AC} {rows rows' : List (List T)} (hR : R[i]? = some (.box cs)) (hc : cs[j]? = some (.sl q 0 m tot)) (hq : R[q]? = some (.row e k rows)) (hl : rows.length = tot) (hm : m ≤ tot) (hr : rows.take m = rows') (ha : rows.flatten.all isSc = true)
    {a : Act} {w : World} {W : Wit} (hn : Now N s R a w W) :
    ∃ W', Now N s ((R.set q .gone ++ [Res.row e k rows']).set i (.box (cs.set j (.sl R.length 0 m m)))) a w W' ∧ Trans w W R w W' ((R.set q .gone ++ [Res.row e k rows']).set i (.box (cs.set j (.sl R.length 0 m m)))) := by
  subst hr hl
  have hi : i < R.length := by
    rcases Nat.lt_or_ge i R.length with h' | h'
    · exact h'
    · rw [List.getElem?_eq_none h'] at hR; cases hR
  have hiq : q ≠ i := fun e => by subst e; rw [hR] at hq; cases hq
  obtain ⟨W1, t1, s1, q1⟩ := hn.sep.moved hq ha hm
  have hR1 : (R.set q .gone ++ [Res.row e k (rows.take m)])[i]? = some (.box cs) := by rw [List.getElem?_append_left (by simpa using hi), List.getElem?_set_ne hiq]; exact hR
  have hi1 : i < (R.set q .gone ++ [Res.row e k (rows.take m)]).length := by simp; omega
  have tr : Trans w W1 (R.set q .gone ++ [Res.row e k (rows.take m)]) w W1 ((R.set q .gone ++ [Res.row e k (rows.take m)]).set i (.box (cs.set j (.sl R.length 0 m m)))) := by
    refine ⟨rfl, rfl, rfl, Nat.le_refl _, fun _ _ => rfl, fun p b hb => .inl ⟨p, hb⟩, fun p => ?_⟩
    by_cases em : i = p
    · subst em; rw [List.getElem?_set_self hi1, hR1]; rfl
    · rw [List.getElem?_set_ne em]; exact Goes.refl _ _
  obtain ⟨b, arr, e', f1, f2, f3, f4⟩ := hn.sep.res i _ hR
  obtain ⟨b', arr', e'', g1, g2, g3, g4⟩ := s1.res i _ hR1
  have hbb : b' = b ∧ arr' = arr := by
    have hh : W1.hs i = W.hs i := by
      have := t1.goes i
      rw [hR, hR1] at this
      exact this
    rw [f1, g1] at hh
    obtain rfl : b' = b := by cases hh; rfl
    rw [f3] at g3
    cases g3
    exact ⟨rfl, rfl⟩
  obtain ⟨rfl, rfl⟩ := hbb
  have sp : Sep w W1 ((R.set q .gone ++ [Res.row e k (rows.take m)]).set i (.box (cs.set j (.sl R.length 0 m m)))) :=
    s1.step tr i (fun p h1 _ => by simpa using h1) (fun p h1 _ => List.getElem?_set_ne (Ne.symm h1)) (fun _ _ => rfl) (fun _ _ _ => Iff.rfl) (fun _ _ _ _ => rfl)
      (fun r hr => by
        rw [List.getElem?_set_self hi1] at hr
        obtain rfl := Option.some.inj hr
        refine ⟨b', arr', e'', g1, g2, g3, ?_⟩
        refine (AR.setV j g4 fun v hv => ?_).next tr
        have hsl : AR W R w [.sl q 0 m rows.length] [v] := f4.getV hc hv
        cases hsl with
        | sl h1 h2 h3 _ =>
          obtain ⟨z1, z2⟩ := q1 v ((h3 _ _ _ hq).2 rfl)
          exact sl_whole (W' := W1) (R' := R.set q .gone ++ [Res.row e k (rows.take m)]) (w' := w) (i := R.length) (n := m) (e := e) (k := k) (rows := rows.take m) (v := v) (by rw [List.getElem?_append_right (by simp)]; simp) (by rw [List.length_take]; omega) z1 z2 s1)
      (fun b hb => .inl hb) (fun b hb => s1.lt i b hb) (fun h' => absurd hi1 (by simp at h' ⊢; omega)) (fun h' => by rw [List.getElem?_set_self hi1] at h'; cases h')
  exact ⟨W1, (hn.next t1 s1).next tr sp, t1.trans tr⟩

theorem E_move {P : Program} {N : Nat} {s : Slots} {R : List Res} {Q : Exit → Slots → List Res → Prop} {c : Code} (i j : Nat) {q e k m tot : Nat} {cs : List AC} {rows rows' : List (List T)} (hR : R[i]? = some (.box cs)) (hc : cs[j]? = some (.sl q 0 m tot)) (hq : R[q]? = some (.row e k rows)) (hl : rows.length = tot) (hm : m ≤ tot) (hr : rows.take m = rows') (ha : rows.flatten.all isSc = true)
    (h : ECode P N c s ((R.set q .gone ++ [Res.row e k rows']).set i (.box (cs.set j (.sl R.length 0 m m)))) Q) : ECode P N c s R Q := by
  intro a w W hn
  obtain ⟨W1, h1, h2⟩ := view_move i j hR hc hq hl hm hr ha hn
  refine wp_mono (h a w W1 h1) ?_
  rintro ex a' w' ⟨s', R', W', k1, k2, k3⟩
  exact ⟨s', R', W', k1, k2, h2.trans k3⟩

theorem G_move {P : Program} {N n : Nat} {s : Slots} {R : List Res} {Q : Exit → Slots → List Res → Prop} {c : Code} (i j : Nat) {q e k m tot : Nat} {cs : List AC} {rows rows' : List (List T)} (hR : R[i]? = some (.box cs)) (hc : cs[j]? = some (.sl q 0 m tot)) (hq : R[q]? = some (.row e k rows)) (hl : rows.length = tot) (hm : m ≤ tot) (hr : rows.take m = rows') (ha : rows.flatten.all isSc = true)
    (h : GCode P N n c s ((R.set q .gone ++ [Res.row e k rows']).set i (.box (cs.set j (.sl R.length 0 m m)))) Q) : GCode P N n c s R Q := by
  intro w0 W0 R0 hl0 a w W hn ht
  obtain ⟨W1, h1, h2⟩ := view_move i j hR hc hq hl hm hr ha hn
  exact h w0 W0 R0 hl0 a w W1 h1 (ht.trans h2)

theorem ints_fl : ∀ xs : List Int, (ints xs).flatten = (xs.map (Value.int .i64)).map T.sc
  | [] => rfl
  | x :: xs => by have := ints_fl xs; simp only [ints, List.map_cons, List.flatten_cons] at this ⊢; rw [this]; rfl
theorem ints_allSc (xs : List Int) : (ints xs).flatten.all isSc = true := by rw [ints_fl]; simp [isSc, Function.comp_def]
theorem ints_all (xs : List Int) {m : Nat} (h : xs.length = m) : (ints xs).take m = ints xs := List.take_of_length_le (by rw [ints_len]; omega)
theorem pairs_all (xs : List (Int × Int)) {m : Nat} (h : xs.length = m) : (pairs xs).take m = pairs xs := List.take_of_length_le (by rw [pairs_len]; omega)
end Go.Proofs.YtlodlnbhjghjoaaGreat.E
