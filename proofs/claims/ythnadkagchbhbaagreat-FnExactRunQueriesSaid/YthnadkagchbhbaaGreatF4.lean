/- Words of the session's own, put together: part 4. -/
import Derived.Test.YthnadkagchbhbaaGreatF3
namespace Go.Proofs.YthnadkagchbhbaaGreat.E
open Go Go.RowKit
set_option linter.unusedVariables false
set_option linter.unusedSimpArgs false

theorem L_quo {P : Program} {s : Slots} {R : List Res} {o : Oper} {t t' : Nat} {x y : Operand} {u v : Int} (ho : o.op = .binOp .quo t x y t') (hx : E.ev s x = .c (.sc (.int .i64 u))) (hy : E.ev s y = .c (.sc (.int .i64 v))) (hv : v ≠ 0) : Pure P o s R (.c (.sc (.int .i64 (IntKind.i64.wrap (Int.tdiv u v))))) := fun N a w W hn =>
 ⟨.int .i64 (IntKind.i64.wrap (Int.tdiv u v)), AR.sc1 (v := .int .i64 (IntKind.i64.wrap (Int.tdiv u v))) rfl, fun w' => by
  have hr : (do eqGuard .quo t x y (.int .i64 u) (.int .i64 v); binOp .quo t (.int .i64 u) (.int .i64 v)).run P w' = .ok (.int .i64 (IntKind.i64.wrap (Int.tdiv u v))) w' := by
   simp [eqGuard, binOp, Op.intDiv, hv]
  simp only [execOp, ho, hn.sc hx, hn.sc hy]
  simp only [Sem.run_bind] at hr ⊢
  rw [hr]; rfl⟩

/-- .. half of what is not negative. -/
theorem L_half {P : Program} {s : Slots} {R : List Res} {o : Oper} {t t' : Nat} {x y : Operand} {u : Int} (n : Nat) (ho : o.op = .binOp .quo t x y t') (hx : E.ev s x = .c (.sc (.int .i64 u))) (hy : E.ev s y = .c (.sc (.int .i64 2))) (hu : u = n) (hn : n ≤ 9223372036854775807) : Pure P o s R (.c (.sc (.int .i64 ((n / 2 : Nat) : Int)))) := by
 have h := L_quo (P := P) (R := R) ho hx hy (by decide)
 have e : IntKind.i64.wrap (Int.tdiv u 2) = ((n / 2 : Nat) : Int) := by
  subst hu
  have : Int.tdiv (n : Int) 2 = ((n / 2 : Nat) : Int) := rfl
  rw [this, IntKind.wrap_i64]
  omega
 rw [e] at h
 exact h
end Go.Proofs.YthnadkagchbhbaaGreat.E

namespace Go.Proofs.YthnadkagchbhbaaGreat.E
open Go Go.RowKit
set_option linter.unusedVariables false
set_option linter.unusedSimpArgs false

theorem Ow.noF {w : World} {ts : List T} {vs : List Value} {F : Nat → Prop} (h : Ow w ts vs F) : ts.all isSc = true → ∀ b, ¬ F b := by
 induction h with
 | nil => intro _ b hb; exact hb
 | sc _ _ ih =>
  intro ha
  simp only [List.all_cons, Bool.and_eq_true] at ha
  exact ih ha.2
 | sl e k h1 h2 h3 _ _ h6 h7 ih1 ih2 => intro ha; simp [isSc] at ha

theorem row_cut {w : World} {v : Value} {e k n m : Nat} {cells : List Value} (h : w.ownsRow 0 e k v n cells) (hm : m ≤ n) :
  ∃ u, w.ownsRow 0 e k u m (cells.take (m * k)) ∧ (∀ b, u.ownBlock = some b ↔ v.ownBlock = some b) ∧ u.oneCell' = true ∧ ∀ x, slAt v x k 0 m → x = u := by
 obtain ⟨h1, h2⟩ := h
 have hmk : m * k ≤ n * k := Nat.mul_le_mul_right k hm
 rcases h2 with ⟨rfl, rfl⟩ | ⟨g, cap, cur, rfl, hg, hh, hn, hc, hs, ht⟩
 ·obtain rfl : m = 0 := by omega
  refine ⟨.slice none 0 0, ⟨by simp, .inl ⟨rfl, rfl⟩⟩, fun _ => Iff.rfl, rfl, ?_⟩
  rintro x ⟨a, n, c, e1, e2, e3⟩
  cases e1
  rcases e3 with rfl | ⟨_, h0, _⟩
  ·rfl
  ·omega
 ·refine ⟨.slice (some ⟨g, 0, none⟩) m cap, ⟨by rw [List.length_take, h1, Nat.min_eq_left hmk], .inr ⟨g, cap, cur, rfl, hg, hh, by omega, hc, hs, ?_⟩⟩, fun b => Iff.rfl, rfl, ?_⟩
  ·rw [← ht, List.take_take, Nat.min_eq_left hmk]
  ·rintro x ⟨a, n', c, e1, e2, e3⟩
   cases e1
   rcases e3 with rfl | ⟨_, h0, _⟩
   ·simp
   ·omega

/-- A row of one's own, its first m elements, as a new resource; the old one is gone. -/
theorem Sep.moved {w : World} {W : Wit} {R : List Res} {q e k m : Nat} {rows : List (List T)} (hs : Sep w W R) (hR : R[q]? = some (.row e k rows)) (ha : rows.flatten.all isSc = true) (hm : m ≤ rows.length) :
  ∃ W1, Trans w W R w W1 (R.set q .gone ++ [Res.row e k (rows.take m)]) ∧ Sep w W1 (R.set q .gone ++ [Res.row e k (rows.take m)]) ∧ ∀ v, slAt (W.hs q) v k 0 m → W1.hs R.length = v ∧ v.oneCell' = true := by
 have hq : q < R.length := by
  rcases Nat.lt_or_ge q R.length with h' | h'
  ·exact h'
  ·rw [List.getElem?_eq_none h'] at hR; cases hR
 obtain ⟨f1, f2, cells, G, f3, f4, f5, f6⟩ := hs.res q _ hR
 have hG := f4.noF ha
 have hcl := f4.scs_inv ha
 obtain ⟨u, u1, u2, u3, u4⟩ := row_cut f3 hm
 let W1 : Wit := ⟨fun p => if p = R.length then u else W.hs p, fun p b => if p = R.length then (W.hs q).ownBlock = some b else if p = q then False else W.fs p b⟩
 have r0 : (R.set q .gone ++ [Res.row e k (rows.take m)])[R.length]? = some (.row e k (rows.take m)) := by
  rw [List.getElem?_append_right (by simp)]; simp
 have r1 : (R.set q .gone ++ [Res.row e k (rows.take m)])[q]? = some .gone := by
  rw [List.getElem?_append_left (by simpa using hq), List.getElem?_set_self hq]
 have r2 : ∀ p, p < R.length → p ≠ q → (R.set q .gone ++ [Res.row e k (rows.take m)])[p]? = R[p]? := fun p hp hne => by
  rw [List.getElem?_append_left (by simpa using hp), List.getElem?_set_ne (Ne.symm hne)]
 have r3 : ∀ p, R.length < p → (R.set q .gone ++ [Res.row e k (rows.take m)])[p]? = Option.none := fun p hp => List.getElem?_eq_none (by simp; omega)
 have hfs : ∀ p b, W1.fs p b → (p = R.length ∧ W.fs q b) ∨ (p ≠ R.length ∧ p ≠ q ∧ W.fs p b) := fun p b hb => by
  simp only [W1] at hb
  split at hb
  ·rename_i h; exact .inl ⟨h, (f6 b).2 (.inl hb)⟩
  ·split at hb
   ·exact hb.elim
   ·rename_i h1 h2; exact .inr ⟨h1, h2, hb⟩
 have tr : Trans w W R w W1 (R.set q .gone ++ [Res.row e k (rows.take m)]) := by
  refine ⟨rfl, rfl, rfl, Nat.le_refl _, fun _ _ => rfl, fun p b hb => ?_, fun p => ?_⟩
  ·rcases hfs p b hb with ⟨_, h⟩ | ⟨_, _, h⟩
   ·exact .inl ⟨q, h⟩
   ·exact .inl ⟨p, h⟩
  ·by_cases e1 : p = q
   ·subst e1
    rw [hR, r1]; exact trivial
   ·rcases Nat.lt_or_ge p R.length with h | h
    ·rw [r2 p h e1]
     have : W1.hs p = W.hs p := by simp [W1, Nat.ne_of_lt h]
     rw [this]; exact Goes.refl _ _
    ·rw [List.getElem?_eq_none h]; exact trivial
 refine ⟨W1, tr, ⟨fun p r hr => ?_, fun p hp b hb => ?_, fun p hp b hb => ?_, fun p p' b hb hb' => ?_, fun p b hb => ?_⟩, fun v hv => ?_⟩
 ·by_cases e0 : p = R.length
  ·subst e0
   rw [r0] at hr
   obtain rfl := Option.some.inj hr
   refine ⟨f1, fun r hr => f2 r (List.mem_of_mem_take hr), cells.take (m * k), fun _ => False, ?_, ?_, fun b _ h => h, fun b => ?_⟩
   ·have : (rows.take m).length = m := by rw [List.length_take]; omega
    simpa [W1, this] using u1
   ·have hfl := flatten_sub f2 0 m
    rw [List.drop_zero, Nat.zero_mul, List.drop_zero, hcl, ← List.map_take] at hfl
    rw [hfl]
    exact Ow.scv fun x hx => f4.one x (List.mem_of_mem_take hx)
   ·simp [W1, u2]
  ·by_cases e1 : p = q
   ·subst e1
    rw [r1] at hr
    obtain rfl := Option.some.inj hr
    trivial
   ·have hp : p < R.length := by
     rcases Nat.lt_or_ge p R.length with h | h
     ·exact h
     ·rw [r3 p (by omega)] at hr; cases hr
    rw [r2 p hp e1] at hr
    have k1 : W1.hs p = W.hs p := by simp [W1, e0]
    have k2 : W1.fs p = W.fs p := by funext b; simp [W1, e0, e1]
    rw [k1, k2]
    exact (hs.res p r hr).next tr fun _ _ => rfl
 ·rcases hfs p b hb with ⟨h1, _⟩ | ⟨h1, _, h⟩
  ·rw [h1] at hp; simp at hp; omega
  ·exact hs.out p (by simp at hp; omega) b h
 ·rcases hfs p b hb with ⟨h1, _⟩ | ⟨h1, h2, h⟩
  ·rw [h1, r0] at hp; cases hp
  ·have hl : p < R.length := by
    rcases Nat.lt_or_ge p R.length with h' | h'
    ·exact h'
    ·rw [r3 p (by omega)] at hp; cases hp
   rw [r2 p hl h2] at hp
   exact hs.gone p hp b h
 ·rcases hfs p b hb with ⟨h1, h⟩ | ⟨h1, h2, h⟩
  ·rcases hfs p' b hb' with ⟨g1, g⟩ | ⟨g1, g2, g⟩
   ·rw [h1, g1]
   ·exact absurd (hs.apart _ _ b g h) g2
  ·rcases hfs p' b hb' with ⟨g1, g⟩ | ⟨g1, g2, g⟩
   ·exact absurd (hs.apart _ _ b h g) h2
   ·exact hs.apart _ _ b h g
 ·rcases hfs p b hb with ⟨_, h⟩ | ⟨_, _, h⟩
  ·exact hs.lt q b h
  ·exact hs.lt p b h
 ·obtain rfl := u4 v hv
  exact ⟨by simp [W1], u3⟩

theorem AR.setV {W : Wit} {R : List Res} {w : World} {c' : AC} : ∀ {cs : List AC} {vs : List Value} (j : Nat), AR W R w cs vs → (∀ v, vs[j]? = some v → AR W R w [c'] [v]) → AR W R w (cs.set j c') vs
 | [], vs, j, h, _ => by simpa using h
 | c :: cs, [], j, h, _ => by cases h
 | c :: cs, v :: vs, 0, h, hv => by
  rw [List.set_cons_zero]
  exact AR.cons_mk (hv v rfl) (AR.cons_inv h).2
 | c :: cs, v :: vs, j + 1, h, hv => by
  rw [List.set_cons_succ]
  exact AR.cons_mk (AR.cons_inv h).1 (AR.setV j (AR.cons_inv h).2 fun u hu => hv u (by simpa using hu))

theorem AR.getV {W : Wit} {R : List Res} {w : World} {c : AC} {cs : List AC} {vs : List Value} {j : Nat} {v : Value} (h : AR W R w cs vs) (hc : cs[j]? = some c) (hv : vs[j]? = some v) : AR W R w [c] [v] := by
 have := (h.drop j).take 1
 have e1 : (cs.drop j).take 1 = [c] := by rw [List.take_one, List.head?_drop, hc]; rfl
 have e2 : (vs.drop j).take 1 = [v] := by rw [List.take_one, List.head?_drop, hv]; rfl
 rwa [e1, e2] at this

/-- What a variable's field holds, told as a row of its own. -/
theorem view_move {N : Nat} {s : Slots} {R : List Res} (i j : Nat) {q e k m tot : Nat} {cs : List AC} {rows rows' : List (List T)} (hR : R[i]? = some (.box cs)) (hc : cs[j]? = some (.sl q 0 m tot)) (hq : R[q]? = some (.row e k rows)) (hl : rows.length = tot) (hm : m ≤ tot) (hr : rows.take m = rows') (ha : rows.flatten.all isSc = true)
  {a : Act} {w : World} {W : Wit} (hn : Now N s R a w W) :
  ∃ W', Now N s ((R.set q .gone ++ [Res.row e k rows']).set i (.box (cs.set j (.sl R.length 0 m m)))) a w W' ∧ Trans w W R w W' ((R.set q .gone ++ [Res.row e k rows']).set i (.box (cs.set j (.sl R.length 0 m m)))) := by
 subst hr hl
 have hi : i < R.length := by
  rcases Nat.lt_or_ge i R.length with h' | h'
  ·exact h'
  ·rw [List.getElem?_eq_none h'] at hR; cases hR
 have hiq : q ≠ i := fun e => by subst e; rw [hR] at hq; cases hq
 obtain ⟨W1, t1, s1, q1⟩ := hn.sep.moved hq ha hm
 have hR1 : (R.set q .gone ++ [Res.row e k (rows.take m)])[i]? = some (.box cs) := by rw [List.getElem?_append_left (by simpa using hi), List.getElem?_set_ne hiq]; exact hR
 have hi1 : i < (R.set q .gone ++ [Res.row e k (rows.take m)]).length := by simp; omega
 have tr : Trans w W1 (R.set q .gone ++ [Res.row e k (rows.take m)]) w W1 ((R.set q .gone ++ [Res.row e k (rows.take m)]).set i (.box (cs.set j (.sl R.length 0 m m)))) := by
  refine ⟨rfl, rfl, rfl, Nat.le_refl _, fun _ _ => rfl, fun p b hb => .inl ⟨p, hb⟩, fun p => ?_⟩
  by_cases em : i = p
  ·subst em; rw [List.getElem?_set_self hi1, hR1]; rfl
  ·rw [List.getElem?_set_ne em]; exact Goes.refl _ _
 obtain ⟨b, arr, e', f1, f2, f3, f4⟩ := hn.sep.res i _ hR
 obtain ⟨b', arr', e'', g1, g2, g3, g4⟩ := s1.res i _ hR1
 have hbb : b' = b ∧ arr' = arr := by
  have hh : W1.hs i = W.hs i := by
   have := t1.goes i
   rw [hR, hR1] at this
   exact this
  rw [f1, g1] at hh
  obtain rfl : b' = b := by cases hh; rfl
  rw [f3] at g3
  cases g3
  exact ⟨rfl, rfl⟩
 obtain ⟨rfl, rfl⟩ := hbb
 have sp : Sep w W1 ((R.set q .gone ++ [Res.row e k (rows.take m)]).set i (.box (cs.set j (.sl R.length 0 m m)))) :=
  s1.step tr i (fun p h1 _ => by simpa using h1) (fun p h1 _ => List.getElem?_set_ne (Ne.symm h1)) (fun _ _ => rfl) (fun _ _ _ => Iff.rfl) (fun _ _ _ _ => rfl)
   (fun r hr => by
    rw [List.getElem?_set_self hi1] at hr
    obtain rfl := Option.some.inj hr
    refine ⟨b', arr', e'', g1, g2, g3, ?_⟩
    refine (AR.setV j g4 fun v hv => ?_).next tr
    have hsl : AR W R w [.sl q 0 m rows.length] [v] := f4.getV hc hv
    cases hsl with
    | sl h1 h2 h3 _ =>
     obtain ⟨z1, z2⟩ := q1 v ((h3 _ _ _ hq).2 rfl)
     exact sl_whole (W' := W1) (R' := R.set q .gone ++ [Res.row e k (rows.take m)]) (w' := w) (i := R.length) (n := m) (e := e) (k := k) (rows := rows.take m) (v := v) (by rw [List.getElem?_append_right (by simp)]; simp) (by rw [List.length_take]; omega) z1 z2 s1)
   (fun b hb => .inl hb) (fun b hb => s1.lt i b hb) (fun h' => absurd hi1 (by simp at h' ⊢; omega)) (fun h' => by rw [List.getElem?_set_self hi1] at h'; cases h')
 exact ⟨W1, (hn.next t1 s1).next tr sp, t1.trans tr⟩

theorem E_move {P : Program} {N : Nat} {s : Slots} {R : List Res} {Q : Exit → Slots → List Res → Prop} {c : Code} (i j : Nat) {q e k m tot : Nat} {cs : List AC} {rows rows' : List (List T)} (hR : R[i]? = some (.box cs)) (hc : cs[j]? = some (.sl q 0 m tot)) (hq : R[q]? = some (.row e k rows)) (hl : rows.length = tot) (hm : m ≤ tot) (hr : rows.take m = rows') (ha : rows.flatten.all isSc = true)
  (h : ECode P N c s ((R.set q .gone ++ [Res.row e k rows']).set i (.box (cs.set j (.sl R.length 0 m m)))) Q) : ECode P N c s R Q := by
 intro a w W hn
 obtain ⟨W1, h1, h2⟩ := view_move i j hR hc hq hl hm hr ha hn
 refine wp_mono (h a w W1 h1) ?_
 rintro ex a' w' ⟨s', R', W', k1, k2, k3⟩
 exact ⟨s', R', W', k1, k2, h2.trans k3⟩

theorem G_move {P : Program} {N n : Nat} {s : Slots} {R : List Res} {Q : Exit → Slots → List Res → Prop} {c : Code} (i j : Nat) {q e k m tot : Nat} {cs : List AC} {rows rows' : List (List T)} (hR : R[i]? = some (.box cs)) (hc : cs[j]? = some (.sl q 0 m tot)) (hq : R[q]? = some (.row e k rows)) (hl : rows.length = tot) (hm : m ≤ tot) (hr : rows.take m = rows') (ha : rows.flatten.all isSc = true)
  (h : GCode P N n c s ((R.set q .gone ++ [Res.row e k rows']).set i (.box (cs.set j (.sl R.length 0 m m)))) Q) : GCode P N n c s R Q := by
 intro w0 W0 R0 hl0 a w W hn ht
 obtain ⟨W1, h1, h2⟩ := view_move i j hR hc hq hl hm hr ha hn
 exact h w0 W0 R0 hl0 a w W1 h1 (ht.trans h2)

theorem ints_fl : ∀ xs : List Int, (ints xs).flatten = (xs.map (Value.int .i64)).map T.sc
 | [] => rfl
 | x :: xs => by have := ints_fl xs; simp only [ints, List.map_cons, List.flatten_cons] at this ⊢; rw [this]; rfl
theorem ints_allSc (xs : List Int) : (ints xs).flatten.all isSc = true := by rw [ints_fl]; simp [isSc, Function.comp_def]
theorem ints_all (xs : List Int) {m : Nat} (h : xs.length = m) : (ints xs).take m = ints xs := List.take_of_length_le (by rw [ints_len]; omega)
theorem pairs_all (xs : List (Int × Int)) {m : Nat} (h : xs.length = m) : (pairs xs).take m = pairs xs := List.take_of_length_le (by rw [pairs_len]; omega)
end Go.Proofs.YthnadkagchbhbaaGreat.E

namespace Go.Proofs.YthnadkagchbhbaaGreat.E
open Go Go.RowKit
set_option linter.unusedVariables false
set_option linter.unusedSimpArgs false

theorem t_frame {P : Program} {N : Nat} {s s1 : Slots} {R R1 : List Res} {ops : Array Oper} {K : Slots → List Res → Prop} {fuel : Nat} {listed listed' : Array Bool} {o : Oper} (i : Nat) {d : Nat} {x : Operand} {args : Array Operand} {ats : Array TypeId} {f : FuncId} {args' : List AV} {Rs : List Res} {Q : AV → List Res → Prop} (σ : List Nat) (hi : ops[i]? = some o) (hw : want ops o s = some true) (ho : o.op = .call { callee := .value x, args := args, argTypes := ats }) (hd : o.dst = some d) (hx : ev s x = .c (.fn f [])) (hf : callable P f = true)
  (hR : reR 0 σ R = Rs) (h : EFn P f args' Rs Q) (hk : ∀ r R', (∃ r0 S, Q r0 S ∧ r = r0.un R.length σ ∧ R' = back σ R S) → EAnyT P N ops ((d, r) :: s) R' fuel listed' ((d, r) :: s) R' K) (hσ : okσ 0 R σ = true := by rfl) (ha : (args.toList.map (ev s)).map (AV.sub R σ) = args' := by repeat' (first | (refine sub_whole rfl ?_; first | assumption | exact ints_len _ | exact pairs_len _ | exact quads_len _ | exact quints_len _ | exact bools_len _ | (simp [ints_len, bools_len, pairs_len, quads_len, quints_len, part_len, *]; done) | (simp [ints_len, bools_len, pairs_len, quads_len, quints_len]; omega) | rfl) | refine agg_eq ?_ | (refine subC_whole rfl ?_; first | assumption | exact ints_len _ | exact pairs_len _ | exact quads_len _ | exact quints_len _ | exact bools_len _ | (simp [ints_len, bools_len, pairs_len, quads_len, quints_len, part_len, *]; done) | (simp [ints_len, bools_len, pairs_len, quads_len, quints_len]; omega) | rfl) | refine cons_eq ?_ ?_ | rfl | (simp [E.lend, E.lendC, E.ev, E.cv, E.get, E.fill', E.fill, AV.sh, AC.sh, Res.sh, ints_len, *]; done))) (hq : ∀ r S, Q r S → r.own = true ∧ S.all Res.own = true := by rintro r S ⟨rfl, rfl⟩; exact ⟨rfl, rfl⟩) (hN : d < N := by decide) (hr : Region.ready .any ops listed = [i] := by kernel_rfl) (hdm : domB .any ops i = true := by kernel_rfl) (hl : listed.setIfInBounds i true = listed' := by rfl) : EAnyT P N ops s1 R1 (fuel + 1) listed s R K :=
 T_turn hi hw hr hdm hl (EOp_call1 ho hd hN hx hf (EFn.frame' σ hσ hR ha h hq) (by simp) hk)
end Go.Proofs.YthnadkagchbhbaaGreat.E

namespace Go.Proofs.YthnadkagchbhbaaGreat.E
open Go Go.RowKit
set_option linter.unusedVariables false
set_option linter.unusedSimpArgs false

theorem x_frameC {P : Program} {N i : Nat} {s : Slots} {R : List Res} {ops : Array Oper} {rest : List Nat} {K : Slots → List Res → Prop} {o : Oper} {caps : List AC} {d : Nat} {x : Operand} {args : Array Operand} {ats : Array TypeId} {f : FuncId} {args' : List AV} {Rs : List Res} {Q : AV → List Res → Prop} (σ : List Nat) (ho' : ops[i]? = some o) (hw : want ops o s = some true) (ho : o.op = .call { callee := .value x, args := args, argTypes := ats }) (hd : o.dst = some d) (hx : ev s x = .c (.fn f caps)) (hf : callable P f = true)
  (hR : reR 0 σ R = Rs) (h : EFn P f args' Rs Q) (hk : ∀ r R', (∃ r0 S, Q r0 S ∧ r = r0.un R.length σ ∧ R' = back σ R S) → EOps P N ops rest ((d, r) :: s) R' K) (hσ : okσ 0 R σ = true := by rfl) (ha : (args.toList.map (E.ev s) ++ caps.map AV.c).map (AV.sub R σ) = args' := by repeat' (first | (refine sub_whole rfl ?_; first | assumption | exact ints_len _ | exact pairs_len _ | exact quads_len _ | exact quints_len _ | exact bools_len _ | (simp [ints_len, bools_len, pairs_len, quads_len, quints_len, part_len, *]; done) | (simp [ints_len, bools_len, pairs_len, quads_len, quints_len]; omega) | rfl) | refine agg_eq ?_ | (refine subC_whole rfl ?_; first | assumption | exact ints_len _ | exact pairs_len _ | exact quads_len _ | exact quints_len _ | exact bools_len _ | (simp [ints_len, bools_len, pairs_len, quads_len, quints_len, part_len, *]; done) | (simp [ints_len, bools_len, pairs_len, quads_len, quints_len]; omega) | rfl) | refine cons_eq ?_ ?_ | rfl | (simp [E.lend, E.lendC, E.ev, E.cv, E.get, E.fill', E.fill, AV.sh, AC.sh, Res.sh, ints_len, *]; done))) (hq : ∀ r S, Q r S → r.own = true ∧ S.all Res.own = true := by rintro r S ⟨rfl, rfl⟩; exact ⟨rfl, rfl⟩) (hN : d < N := by decide) : EOps P N ops (i :: rest) s R K := EOps_go ho' hw (EOp_call1 ho hd hN hx hf (EFn.frame' σ hσ hR ha h hq) rfl hk)

theorem L_rem {P : Program} {s : Slots} {R : List Res} {o : Oper} {t t' : Nat} {x y : Operand} {u v : Int} (ho : o.op = .binOp .rem t x y t') (hx : E.ev s x = .c (.sc (.int .i64 u))) (hy : E.ev s y = .c (.sc (.int .i64 v))) (hu : 0 ≤ u) (hv : 0 < v) : Pure P o s R (.c (.sc (.int .i64 (u % v)))) := fun N a w W hn =>
 ⟨.int .i64 (u % v), AR.sc1 (v := .int .i64 (u % v)) rfl, fun w' => by
  have hv0 : v ≠ 0 := by omega
  have hm : Int.tmod u v = u % v := Int.tmod_eq_emod_of_nonneg hu
  have hr : (do eqGuard .rem t x y (.int .i64 u) (.int .i64 v); binOp .rem t (.int .i64 u) (.int .i64 v)).run P w' = .ok (.int .i64 (u % v)) w' := by
   simp [eqGuard, binOp, Op.intDiv, hv0, hm]
  simp only [execOp, ho, hn.sc hx, hn.sc hy]
  simp only [Sem.run_bind] at hr ⊢
  rw [hr]; rfl⟩

/-- A variable is made. -/
theorem V_alloc {P : Program} {s : Slots} {R : List Res} {o : Oper} {t : Nat} {zs : List AC} {KV : AV → List Res → Prop} (ho : o.op = .alloc t) (hz : zav P t = some zs) (h : KV (.c (.bp R.length 0)) (R ++ [.box zs])) : HeavyV P o s R KV := by
 intro N Q a w W hn
 obtain ⟨v, hr, har⟩ := zav_run hz w
 have hrun : (execOp a.eval o).run P w = .ok (.value (.pointer (some ⟨w.heap.size, 0, none⟩))) (w.alloc (.cells v.cells t)) := by
  simp only [execOp, ho, Instr.alloc, Sem.run_bind, hr, Result.andThen_ok]
  rfl
 unfold Oper.wp
 rw [hrun, Oper.upon_value]
 obtain ⟨V, k1, k2, k3⟩ := Sep.box hn.sep (cs := zs) (arr := v.cells) (e := t) (har W R)
 have hb : Below w.heap.size w (w.alloc (.cells v.cells t)) := ⟨rfl, rfl, rfl, by simp, fun b hb' => heap_alloc_lt w _ b hb'⟩
 exact ⟨hb, _, _, V, _, h, rfl, bp_new k3, k1, k2⟩

/-- An operation before or behind which all others have to come that turn or look at memory, where others may come up too. -/
theorem s_turn {P : Program} {N : Nat} {ops : Array Oper} {s s1 : Slots} {R R1 : List Res} {K : Slots → List Res → Prop} {fuel : Nat} {listed listed' : Array Bool} {o : Oper} (i : Nat) (hi : ops[i]? = some o) (hw : want ops o s = some true) (h : EOp P N o s R fun s' R' => EAnyT P N ops s' R' fuel listed' s' R' K) (hd : domB .any ops i = true := by kernel_rfl) (hl : listed.setIfInBounds i true = listed' := by rfl) : TStep P N ops i s1 R1 fuel listed s R K := by
 subst hl
 intro G w1 W1 a w W hn1 ht hn hb hc hj hq
 have hc' := hc.step hj
 unfold wpOp
 simp only [hi, want_real hn hw, if_true]
 refine .inl (Oper.wp_mono (fun a' w' hh => ?_) (h _ a w W hn))
 obtain ⟨s', R', W', h2, h3, h4⟩ := hh
 exact .inr ⟨dom_of hd, fun w'' => Below w'.heap.size w' w'', Below.refl _ _, h2 G w' W' a' w' W' h3 (.refl ..) h3 (Below.refl _ _) hc' fun a'' w'' hr' => hq a'' w'' (hr'.after h4)⟩
theorem s_frame {P : Program} {N : Nat} {s s1 : Slots} {R R1 : List Res} {ops : Array Oper} {K : Slots → List Res → Prop} {fuel : Nat} {listed listed' : Array Bool} {o : Oper} (i : Nat) {d : Nat} {x : Operand} {args : Array Operand} {ats : Array TypeId} {f : FuncId} {args' : List AV} {Rs : List Res} {Q : AV → List Res → Prop} (σ : List Nat) (hi : ops[i]? = some o) (hw : want ops o s = some true) (ho : o.op = .call { callee := .value x, args := args, argTypes := ats }) (hd : o.dst = some d) (hx : ev s x = .c (.fn f [])) (hf : callable P f = true)
  (hR : reR 0 σ R = Rs) (h : EFn P f args' Rs Q) (hk : ∀ r R', (∃ r0 S, Q r0 S ∧ r = r0.un R.length σ ∧ R' = back σ R S) → EAnyT P N ops ((d, r) :: s) R' fuel listed' ((d, r) :: s) R' K) (hσ : okσ 0 R σ = true := by rfl) (ha : (args.toList.map (E.ev s)).map (AV.sub R σ) = args' := by repeat' (first | (refine sub_whole rfl ?_; first | assumption | exact ints_len _ | exact pairs_len _ | exact quads_len _ | exact quints_len _ | exact bools_len _ | (simp [ints_len, bools_len, pairs_len, quads_len, quints_len, part_len, *]; done) | (simp [ints_len, bools_len, pairs_len, quads_len, quints_len]; omega) | rfl) | refine agg_eq ?_ | (refine subC_whole rfl ?_; first | assumption | exact ints_len _ | exact pairs_len _ | exact quads_len _ | exact quints_len _ | exact bools_len _ | (simp [ints_len, bools_len, pairs_len, quads_len, quints_len, part_len, *]; done) | (simp [ints_len, bools_len, pairs_len, quads_len, quints_len]; omega) | rfl) | refine cons_eq ?_ ?_ | rfl | (simp [E.lend, E.lendC, E.ev, E.cv, E.get, E.fill', E.fill, AV.sh, AC.sh, Res.sh, ints_len, *]; done))) (hq : ∀ r S, Q r S → r.own = true ∧ S.all Res.own = true := by rintro r S ⟨rfl, rfl⟩; exact ⟨rfl, rfl⟩) (hN : d < N := by decide) (hdm : domB .any ops i = true := by kernel_rfl) (hl : listed.setIfInBounds i true = listed' := by rfl) : TStep P N ops i s1 R1 fuel listed s R K :=
 s_turn i hi hw (EOp_call1 ho hd hN hx hf (EFn.frame' σ hσ hR ha h hq) (by simp) hk) hdm hl

/-- What a variable's field holds, told as a row of its own, under a number that is told. -/
theorem E_moveN' {P : Program} {N : Nat} {s : Slots} {R : List Res} {Q : Exit → Slots → List Res → Prop} {c : Code} (n i j : Nat) (hn : R.length = n) {q e k m tot : Nat} {cs : List AC} {rows rows' : List (List T)} (hR : R[i]? = some (.box cs)) (hc : cs[j]? = some (.sl q 0 m tot)) (hq : R[q]? = some (.row e k rows)) (hl : rows.length = tot) (hm : m ≤ tot) (hr : rows.take m = rows') (ha : rows.flatten.all isSc = true)
  (h : ECode P N c s ((R.set q .gone ++ [Res.row e k rows']).set i (.box (cs.set j (.sl n 0 m m)))) Q) : ECode P N c s R Q := by
 subst hn
 exact E_move i j hR hc hq hl hm hr ha h

theorem G_moveN' {P : Program} {N b : Nat} {s : Slots} {R : List Res} {Q : Exit → Slots → List Res → Prop} {c : Code} (n i j : Nat) (hn : R.length = n) {q e k m tot : Nat} {cs : List AC} {rows rows' : List (List T)} (hR : R[i]? = some (.box cs)) (hc : cs[j]? = some (.sl q 0 m tot)) (hq : R[q]? = some (.row e k rows)) (hl : rows.length = tot) (hm : m ≤ tot) (hr : rows.take m = rows') (ha : rows.flatten.all isSc = true)
  (h : GCode P N b c s ((R.set q .gone ++ [Res.row e k rows']).set i (.box (cs.set j (.sl n 0 m m)))) Q) : GCode P N b c s R Q := by
 subst hn
 exact G_move i j hR hc hq hl hm hr ha h
end Go.Proofs.YthnadkagchbhbaaGreat.E

namespace Go.Proofs.YthnadkagchbhbaaGreat.E
open Go Go.RowKit
set_option linter.unusedVariables false
set_option linter.unusedSimpArgs false

def EAnyU (P : Program) (N : Nat) (ops : Array Oper) (fuel : Nat) (listed : Array Bool) (s : Slots) (R : List Res) (K : Slots → List Res → Prop) : Prop :=
 ∀ (G : Act → World → Prop) a w W, Now N s R a w W → Closed .any ops listed → (∀ a' w', Reach N w W R K a' w' → G a' w') → wpAnyJ P .any ops (fun ex a' w' => ex = .normal ∧ G a' w') fuel (fun _ => True) listed a w

def UStep (P : Program) (N : Nat) (ops : Array Oper) (i : Nat) (fuel : Nat) (listed : Array Bool) (s : Slots) (R : List Res) (K : Slots → List Res → Prop) : Prop :=
 ∀ (G : Act → World → Prop) a w W, Now N s R a w W → Closed .any ops listed → i ∈ Region.ready .any ops listed → (∀ a' w', Reach N w W R K a' w' → G a' w') →
  wpOp P ops (fun ex a' w' => ex = .normal ∧ G a' w') i (fun a' w' => wpAnyJ P .any ops (fun ex a' w' => ex = .normal ∧ G a' w') fuel (fun _ => True) (listed.setIfInBounds i true) a' w') a w

section
variable {P : Program} {N n : Nat} {ops : Array Oper} {s : Slots} {R : List Res} {K : Slots → List Res → Prop} {fuel : Nat} {listed listed' : Array Bool}

theorem E_drawU {id : Nat} {Q : Exit → Slots → List Res → Prop} (hm : P.follows .mixedOrders = true) (h : EAnyU P N ops ops.size (Array.replicate ops.size false) s R (Q .normal)) : ECode P N (.region id ops true) s R Q := by
 intro a w W hn
 obtain ⟨h1, h2⟩ := hn.draw
 have := h (fun a' w' => Reach N w W R (Q .normal) a' w') a { w with drawn := w.drawn + 1 } W h1 (Closed.start _ _ _) fun a' w' hr => hr.after h2
 refine wp_mono (wp_region_any hm (wpAny_of_J _ _ _ _ _ this)) ?_
 rintro e a' w' ⟨rfl, hr⟩
 exact hr
theorem G_drawU {id : Nat} {Q : Exit → Slots → List Res → Prop} (hm : P.follows .mixedOrders = true) (h : EAnyU P N ops ops.size (Array.replicate ops.size false) s R (Q .normal)) : GCode P N n (.region id ops true) s R Q := G_E (E_drawU hm h)

theorem u_done (h : K s R) (hr : Region.ready .any ops listed = [] := by kernel_rfl) : EAnyU P N ops fuel listed s R K :=
 fun G a w W hn hc hq => wpAnyJ_done hr ⟨rfl, hq a w ⟨s, R, W, h, hn, .refl ..⟩⟩ fuel

theorem u_pure (i : Nat) {d : Nat} {o : Oper} {y : AV} (hi : ops[i]? = some o) (hw : want ops o s = some true) (hd : o.dst = some d) (hv : Pure P o s R y) (h : EAnyU P N ops fuel listed' ((d, y) :: s) R K) (hs : Region.noSelect ops = true := by kernel_rfl) (hf : Region.free .any ops listed i = true := by kernel_rfl) (hr : (Region.ready .any ops listed).contains i = true := by kernel_rfl) (hN : d < N := by decide) (hl : listed.setIfInBounds i true = listed' := by rfl) : EAnyU P N ops (fuel + 1) listed s R K := by
 subst hl
 intro G a w W hn hc hq
 obtain ⟨v, hy, hrun⟩ := hv N a w W hn
 refine wpAnyJ_take0 hc hi hs hf hr (fun c a' w' hp => by cases hp.1) (v := v) (.inl ⟨want_real hn hw, fun w' _ => hrun w'⟩) trivial ?_
 rw [hd]
 exact h G _ w W (hn.put hN hy) (hc.step (by simpa using hr)) hq

theorem u_op (i : Nat) {o : Oper} (hi : ops[i]? = some o) (hw : want ops o s = some true) (h : EOp P N o s R fun s' R' => EAnyU P N ops fuel listed' s' R' K) (hl : listed.setIfInBounds i true = listed' := by rfl) : UStep P N ops i fuel listed s R K := by
 subst hl
 intro G a w W hn hc hj hq
 have hc' := hc.step hj
 unfold wpOp
 simp only [hi, want_real hn hw, if_true]
 refine .inl (Oper.wp_mono (fun a' w' hh => ?_) (h _ a w W hn))
 obtain ⟨s', R', W', h2, h3, h4⟩ := hh
 exact h2 G a' w' W' h3 hc' fun a'' w'' hr' => hq a'' w'' (hr'.after h4)

def AllU (P : Program) (N : Nat) (ops : Array Oper) (fuel : Nat) (listed : Array Bool) (s : Slots) (R : List Res) (K : Slots → List Res → Prop) : List Nat → Prop
 | [] => True
 | i :: l => UStep P N ops i fuel listed s R K ∧ AllU P N ops fuel listed s R K l
theorem AllU.mem : ∀ {l : List Nat}, AllU P N ops fuel listed s R K l → ∀ i ∈ l, UStep P N ops i fuel listed s R K
 | [], _, i, hi => by cases hi
 | j :: l, h, i, hi => by
  rcases List.mem_cons.1 hi with rfl | hi
  ·exact h.1
  ·exact AllU.mem h.2 i hi

/-- All that may come up come up. -/
theorem u_any (j : Nat) (l : List Nat) (h : AllU P N ops fuel listed s R K (j :: l)) (hr : Region.ready .any ops listed = j :: l := by kernel_rfl) : EAnyU P N ops (fuel + 1) listed s R K := by
 intro G a w W hn hc hq
 refine ⟨fun h0 => (by rw [hr] at h0; cases h0), fun k hk => ?_⟩
 have hs := h.mem k (hr ▸ hk) G a w W hn hc hk hq
 exact wpOp_mono (fun a' w' h' => .inl ⟨trivial, h'⟩) hs

end

theorem u_call {P : Program} {N : Nat} {ops : Array Oper} {s : Slots} {R : List Res} {K : Slots → List Res → Prop} {fuel : Nat} {listed listed' : Array Bool} {o : Oper} (i : Nat) {d : Nat} {x : Operand} {args : Array Operand} {ats : Array TypeId} {f : FuncId} {args' : List AV} {Q : AV → List Res → Prop} (hi : ops[i]? = some o) (hw : want ops o s = some true) (ho : o.op = .call { callee := .value x, args := args, argTypes := ats }) (hd : o.dst = some d) (hx : ev s x = .c (.fn f [])) (hf : callable P f = true)
  (h : EFn P f args' [] Q) (hk : ∀ r S, Q r S → EAnyU P N ops fuel listed' ((d, r.sh R.length) :: s) (R ++ S.map (Res.sh R.length)) K) (ha : (args.toList.map (E.ev s)).map (E.lend R) = args' := by repeat' (first | (refine lend_whole rfl ?_; first | assumption | exact ints_len _ | exact pairs_len _ | exact quads_len _ | exact quints_len _ | exact bools_len _ | (simp [ints_len, bools_len, pairs_len, quads_len, quints_len, part_len, *]; done) | (simp [ints_len, bools_len, pairs_len, quads_len, quints_len]; omega) | rfl) | refine agg_eq ?_ | (refine lendC_whole rfl ?_; first | assumption | exact ints_len _ | exact pairs_len _ | exact quads_len _ | exact quints_len _ | exact bools_len _ | (simp [ints_len, bools_len, pairs_len, quads_len, quints_len, part_len, *]; done) | (simp [ints_len, bools_len, pairs_len, quads_len, quints_len]; omega) | rfl) | refine cons_eq ?_ ?_ | rfl | (simp [E.lend, E.lendC, E.ev, E.cv, E.get, E.fill', E.fill, AV.sh, AC.sh, Res.sh, ints_len, *]; done))) (hq : ∀ r S, Q r S → r.own = true ∧ S.all Res.own = true := by rintro r S ⟨rfl, rfl⟩; exact ⟨rfl, rfl⟩) (hN : d < N := by decide) (hl : listed.setIfInBounds i true = listed' := by rfl) : UStep P N ops i fuel listed s R K :=
 u_op i hi hw (Heavy.op (H_pcall1 ho hd hN hx hf h ha hq hk)) hl

theorem u_frame {P : Program} {N : Nat} {ops : Array Oper} {s : Slots} {R : List Res} {K : Slots → List Res → Prop} {fuel : Nat} {listed listed' : Array Bool} {o : Oper} (i : Nat) {d : Nat} {x : Operand} {args : Array Operand} {ats : Array TypeId} {f : FuncId} {args' : List AV} {Rs : List Res} {Q : AV → List Res → Prop} (σ : List Nat) (hi : ops[i]? = some o) (hw : want ops o s = some true) (ho : o.op = .call { callee := .value x, args := args, argTypes := ats }) (hd : o.dst = some d) (hx : ev s x = .c (.fn f [])) (hf : callable P f = true)
  (hR : reR 0 σ R = Rs) (h : EFn P f args' Rs Q) (hk : ∀ r R', (∃ r0 S, Q r0 S ∧ r = r0.un R.length σ ∧ R' = back σ R S) → EAnyU P N ops fuel listed' ((d, r) :: s) R' K) (hσ : okσ 0 R σ = true := by rfl) (ha : (args.toList.map (E.ev s)).map (AV.sub R σ) = args' := by repeat' (first | (refine sub_whole rfl ?_; first | assumption | exact ints_len _ | exact pairs_len _ | exact quads_len _ | exact quints_len _ | exact bools_len _ | (simp [ints_len, bools_len, pairs_len, quads_len, quints_len, part_len, *]; done) | (simp [ints_len, bools_len, pairs_len, quads_len, quints_len]; omega) | rfl) | refine agg_eq ?_ | (refine subC_whole rfl ?_; first | assumption | exact ints_len _ | exact pairs_len _ | exact quads_len _ | exact quints_len _ | exact bools_len _ | (simp [ints_len, bools_len, pairs_len, quads_len, quints_len, part_len, *]; done) | (simp [ints_len, bools_len, pairs_len, quads_len, quints_len]; omega) | rfl) | refine cons_eq ?_ ?_ | rfl | (simp [E.lend, E.lendC, E.ev, E.cv, E.get, E.fill', E.fill, AV.sh, AC.sh, Res.sh, ints_len, *]; done))) (hq : ∀ r S, Q r S → r.own = true ∧ S.all Res.own = true := by rintro r S ⟨rfl, rfl⟩; exact ⟨rfl, rfl⟩) (hN : d < N := by decide) (hl : listed.setIfInBounds i true = listed' := by rfl) : UStep P N ops i fuel listed s R K :=
 u_op i hi hw (EOp_call1 ho hd hN hx hf (EFn.frame' σ hσ hR ha h hq) (by simp) hk) hl
end Go.Proofs.YthnadkagchbhbaaGreat.E

namespace Go.Proofs.YthnadkagchbhbaaGreat.E
open Go Go.RowKit
set_option linter.unusedVariables false
set_option linter.unusedSimpArgs false

theorem L_nilCheck {P : Program} {s : Slots} {R : List Res} {o : Oper} {x : Operand} {i off : Nat} {xs : List AC} (ho : o.op = .nilCheck x) (hx : E.ev s x = .c (.bp i off)) (hR : R[i]? = some (.box xs)) : Pure P o s R (.c (.bp i off)) := fun N a w W hn => by
 have hv := hn.ev x
 rw [hx] at hv
 have hv' : AR W R w [.bp i off] [a.eval x] := hv
 refine ⟨a.eval x, hv, fun w' => ?_⟩
 cases hv' with
 | bp h1 h2 h3 _ =>
  obtain ⟨b, k1, k2⟩ := h3 _ hR
  simp [execOp, ho, k2]
end Go.Proofs.YthnadkagchbhbaaGreat.E

namespace Go.Proofs.YthnadkagchbhbaaGreat.E
open Go Go.RowKit
set_option linter.unusedVariables false
set_option linter.unusedSimpArgs false

/-- These variables hold what they held at the beginning. -/
def BoxK (ks : List Nat) (RB : List Res) (WB : Wit) (wB w : World) : Prop := ∀ j ∈ ks, ∀ cs, RB[j]? = some (.box cs) → ∀ c, WB.fs j c → w.heap[c]? = wB.heap[c]?

section
variable {P : Program} {N n : Nat} {ops : Array Oper} {s : Slots} {R RB : List Res} {K : Slots → List Res → Prop} {fuel : Nat} {listed listed' : Array Bool} {ks : List Nat}

def EAnyD (P : Program) (N : Nat) (ops : Array Oper) (ks : List Nat) (RB : List Res) (fuel : Nat) (listed : Array Bool) (s : Slots) (R : List Res) (K : Slots → List Res → Prop) : Prop :=
 ∀ (G : Act → World → Prop) (wB : World) (WB : Wit) a w W, Sep wB WB RB → Trans wB WB RB w W R → Now N s R a w W → BoxK ks RB WB wB w → Closed .any ops listed → (∀ a' w', Reach N w W R K a' w' → G a' w') →
  wpAnyJ P .any ops (fun ex a' w' => ex = .normal ∧ G a' w') fuel (fun w' => BoxK ks RB WB wB w') listed a w

theorem E_drawD (ks : List Nat) {id : Nat} {Q : Exit → Slots → List Res → Prop} (hm : P.follows .mixedOrders = true) (h : EAnyD P N ops ks R ops.size (Array.replicate ops.size false) s R (Q .normal)) : ECode P N (.region id ops true) s R Q := by
 intro a w W hn
 obtain ⟨h1, h2⟩ := hn.draw
 have := h (fun a' w' => Reach N w W R (Q .normal) a' w') { w with drawn := w.drawn + 1 } W a _ W h1.sep (.refl ..) h1 (fun _ _ _ _ _ _ => rfl) (Closed.start _ _ _) fun a' w' hr => hr.after h2
 refine wp_mono (wp_region_any hm (wpAny_of_J _ _ _ _ _ this)) ?_
 rintro e a' w' ⟨rfl, hr⟩
 exact hr
theorem G_drawD (ks : List Nat) {id : Nat} {Q : Exit → Slots → List Res → Prop} (hm : P.follows .mixedOrders = true) (h : EAnyD P N ops ks R ops.size (Array.replicate ops.size false) s R (Q .normal)) : GCode P N n (.region id ops true) s R Q := G_E (E_drawD ks hm h)

theorem D_done (hr : Region.ready .any ops listed = []) (h : K s R) : EAnyD P N ops ks RB fuel listed s R K :=
 fun G wB WB a w W _ _ hn hb hc hq => wpAnyJ_done hr ⟨rfl, hq a w ⟨s, R, W, h, hn, .refl ..⟩⟩ fuel

theorem d_pure' (i : Nat) {d : Nat} {o : Oper} {y : AV} (hi : ops[i]? = some o) (hw : want ops o s = some true) (hd : o.dst = some d) (hv : Pure P o s R y) (h : EAnyD P N ops ks RB fuel listed' ((d, y) :: s) R K)
  (hs : Region.noSelect ops = true := by kernel_rfl) (hf : Region.free .any ops listed i = true := by kernel_rfl) (hr : (Region.ready .any ops listed).contains i = true := by kernel_rfl) (hN : d < N := by decide) (hl : listed.setIfInBounds i true = listed' := by rfl) : EAnyD P N ops ks RB (fuel + 1) listed s R K := by
 subst hl
 intro G wB WB a w W hsB ht hn hb hc hq
 obtain ⟨v, hy, hrun⟩ := hv N a w W hn
 refine wpAnyJ_take0 hc hi hs hf hr (fun c a' w' hp => by cases hp.1) (v := v) (.inl ⟨want_real hn hw, fun w' _ => hrun w'⟩) hb ?_
 rw [hd]
 exact h G wB WB _ w W hsB ht (hn.put hN hy) hb (hc.step (by simpa using hr)) hq

theorem d_load' (i : Nat) {d ib off t : Nat} {o : Oper} {x : Operand} {y : AV} {cs cs' : List AC} (hi : ops[i]? = some o) (hw : want ops o s = some true) (hd : o.dst = some d) (ho : o.op = .load t x) (hx : ev s x = .c (.bp ib off)) (hy : ldv P R t (.c (.bp ib off)) = some y) (h : EAnyD P N ops ks RB fuel listed' ((d, y) :: s) R K)
  (h1 : RB[ib]? = some (.box cs) := by rfl) (h2 : R[ib]? = some (.box cs') := by rfl) (hks : ks.contains ib = true := by rfl) (hnm : isMv o = false := by rfl) (hs : Region.noSelect ops = true := by kernel_rfl) (hf : Region.free .any ops listed i = true := by kernel_rfl) (hr : (Region.ready .any ops listed).contains i = true := by kernel_rfl) (hN : d < N := by decide) (hl : listed.setIfInBounds i true = listed' := by rfl) : EAnyD P N ops ks RB (fuel + 1) listed s R K := by
 subst hl
 intro G wB WB a w W hsB ht hn hb hc hq
 have hvx := hn.ev x
 rw [hx] at hvx
 obtain ⟨agg, n, b, oo, vs, g1, g2, g3, g4, g5, g6⟩ := ldv_cells hn.sep hvx hy
 have hblk : W.fs ib b := by
  obtain ⟨b', arr', e', k1', k2', -, -⟩ := hn.sep.res ib _ h2
  generalize a.eval x = vx at *
  cases hvx with
  | bp m1 m2 m3 _ =>
   obtain ⟨b2, e1, e2⟩ := m3 _ h2
   rw [e1] at k1'
   obtain rfl : b2 = b' := by cases k1'; rfl
   rw [g2] at e2
   obtain ⟨rfl, -⟩ : b = b2 ∧ True := by cases e2; exact ⟨rfl, trivial⟩
   exact (k2' b).2 rfl
 have hblkB : WB.fs ib b := (box_block hsB ht hn.sep h1 h2 b).2 hblk
 refine wpAnyJ_take hc hi hnm hs hf hr (fun c a' w' hp => by cases hp.1) (v := asV agg vs) (.inl ⟨want_real hn hw, fun w' hb' => ?_⟩) hb ?_
 ·have hm : ib ∈ ks := by simpa using hks
  have e : w'.heap[b]? = w.heap[b]? := (hb' ib hm _ h1 b hblkB).trans (hb ib hm _ h1 b hblkB).symm
  have h5' : ∀ j u, vs[j]? = some u → w'.cell? ⟨b, oo + j, none⟩ = some u := fun j u hj => by
   have := g5 j u hj
   simp only [World.cell?] at this ⊢
   rw [e]; exact this
  simp only [execOp, ho, Instr.loadAt, g2, Instr.sureAddr, Sem.run_bind, Sem.run_pure, Result.andThen_ok, run_loadVar_ g1 vs g3 g4 h5']
 ·rw [hd]
  exact h G wB WB _ w W hsB ht (hn.put hN g6) hb (hc.step (by simpa using hr)) hq

/-- Number i comes up. -/
def DStep (P : Program) (N : Nat) (ops : Array Oper) (i : Nat) (ks : List Nat) (RB : List Res) (fuel : Nat) (listed : Array Bool) (s : Slots) (R : List Res) (K : Slots → List Res → Prop) : Prop :=
 ∀ (G : Act → World → Prop) (wB : World) (WB : Wit) a w W, Sep wB WB RB → Trans wB WB RB w W R → Now N s R a w W → BoxK ks RB WB wB w → Closed .any ops listed → i ∈ Region.ready .any ops listed → (∀ a' w', Reach N w W R K a' w' → G a' w') →
  wpOp P ops (fun ex a' w' => ex = .normal ∧ G a' w') i (fun a' w' => BoxK ks RB WB wB w' ∧ wpAnyJ P .any ops (fun ex a' w' => ex = .normal ∧ G a' w') fuel (fun w' => BoxK ks RB WB wB w') (listed.setIfInBounds i true) a' w') a w

theorem d_store' (i : Nat) {ib off t : Nat} {o : Oper} {x y : Operand} {ys : List AC} {R' : List Res} (hi : ops[i]? = some o) (hw : want ops o s = some true) (ho : o.op = .store t x y) (hd : o.dst = none)
  (hx : ev s x = .c (.bp ib off)) (hys : cellsOf (ev s y) = some ys) (hR : stv P R t (.c (.bp ib off)) ys = some R') (h : EAnyD P N ops ks RB fuel listed' s R' K) (hk : boxKeep RB R = true := by rfl) (hib : ks.contains ib = false := by rfl) (hl : listed.setIfInBounds i true = listed' := by rfl) : DStep P N ops i ks RB fuel listed s R K := by
 subst hl
 intro G wB WB a w W hsB ht hn hb hc hj hq
 have hvx := hn.ev x
 rw [hx] at hvx
 obtain ⟨w', g1, g2, g3, b, g4, g5⟩ := stv_box_run (P := P) hn.sep hvx (hn.ev y) hys hR
 have hb' : BoxK ks RB WB wB w' := fun q hqk cs hq' c hc' => by
  obtain ⟨cs', hq2⟩ := boxKeep_at hk q cs hq'
  have hw' := (box_block hsB ht hn.sep hq' hq2 c).1 hc'
  refine (g5 c fun e => ?_).trans (hb q hqk cs hq' c hc')
  subst e
  obtain rfl := hn.sep.apart _ _ _ hw' g4
  have : ks.contains q = true := by simpa using hqk
  rw [this] at hib; cases hib
 have hs3 : Sep w' W R' := g3
 unfold wpOp
 simp only [hi, want_real hn hw, if_true]
 refine .inl ?_
 unfold Oper.wp
 have hrr : (execOp a.eval o).run P w = .ok .skip w' := by
  simp only [execOp, ho, Sem.run_bind, g1, Result.andThen_ok, Sem.run_pure]
 rw [hrr, Oper.upon_skip, hd]
 exact ⟨hb', h G wB WB a w' W hsB (ht.trans g2) (hn.next g2 g3) hb' (hc.step hj) fun a'' w'' hr' => hq a'' w'' (hr'.after g2)⟩

end
end Go.Proofs.YthnadkagchbhbaaGreat.E

namespace Go.Proofs.YthnadkagchbhbaaGreat.E
open Go Go.RowKit
set_option linter.unusedVariables false
set_option linter.unusedSimpArgs false

section
variable {P : Program} {N n : Nat} {ops : Array Oper} {s : Slots} {R RB : List Res} {K : Slots → List Res → Prop} {fuel : Nat} {listed listed' : Array Bool} {ks : List Nat}

theorem BoxK.next {wB w w' : World} {WB W : Wit} (hsB : Sep wB WB RB) (ht : Trans wB WB RB w W R) (hs : Sep w W R) (hk : boxKeep RB R = true) (hb : BoxK ks RB WB wB w) (h : ∀ q ∈ ks, ∀ c, W.fs q c → w'.heap[c]? = w.heap[c]?) : BoxK ks RB WB wB w' := fun q hqk cs hq' c hc' => by
 obtain ⟨cs', hq2⟩ := boxKeep_at hk q cs hq'
 have hw' := (box_block hsB ht hs hq' hq2 c).1 hc'
 exact (h q hqk c hw').trans (hb q hqk cs hq' c hc')

/-- What makes memory alone. -/
theorem d_heavy (i : Nat) {o : Oper} (hi : ops[i]? = some o) (hw : want ops o s = some true) (h : Heavy P N o s R fun s' R' => EAnyD P N ops ks RB fuel listed' s' R' K) (hk : boxKeep RB R = true := by rfl) (hl : listed.setIfInBounds i true = listed' := by rfl) : DStep P N ops i ks RB fuel listed s R K := by
 subst hl
 intro G wB WB a w W hsB ht hn hb hc hj hq
 have hc' := hc.step hj
 unfold wpOp
 simp only [hi, want_real hn hw, if_true]
 refine .inl (Oper.wp_mono (fun a' w' hh => ?_) (h _ a w W hn))
 obtain ⟨hbl, s', R', W', h2, h3, h4⟩ := hh
 have hb' : BoxK ks RB WB wB w' := hb.next hsB ht hn.sep hk fun q _ c hc2 => hbl.block c (hn.sep.lt q c hc2)
 exact ⟨hb', h2 G wB WB a' w' W' hsB (ht.trans h4) h3 hb' hc' fun a'' w'' hr' => hq a'' w'' (hr'.after h4)⟩

theorem d_call (i : Nat) {d : Nat} {o : Oper} {x : Operand} {args : Array Operand} {ats : Array TypeId} {f : FuncId} {args' : List AV} {Q : AV → List Res → Prop} (hi : ops[i]? = some o) (hw : want ops o s = some true) (ho : o.op = .call { callee := .value x, args := args, argTypes := ats }) (hd : o.dst = some d) (hx : ev s x = .c (.fn f [])) (hf : callable P f = true)
  (h : EFn P f args' [] Q) (hk : ∀ r S, Q r S → EAnyD P N ops ks RB fuel listed' ((d, r.sh R.length) :: s) (R ++ S.map (Res.sh R.length)) K) (ha : (args.toList.map (E.ev s)).map (E.lend R) = args' := by repeat' (first | (refine lend_whole rfl ?_; first | assumption | exact ints_len _ | exact pairs_len _ | exact quads_len _ | exact quints_len _ | exact bools_len _ | (simp [ints_len, bools_len, pairs_len, quads_len, quints_len, part_len, *]; done) | (simp [ints_len, bools_len, pairs_len, quads_len, quints_len]; omega) | rfl) | refine agg_eq ?_ | (refine lendC_whole rfl ?_; first | assumption | exact ints_len _ | exact pairs_len _ | exact quads_len _ | exact quints_len _ | exact bools_len _ | (simp [ints_len, bools_len, pairs_len, quads_len, quints_len, part_len, *]; done) | (simp [ints_len, bools_len, pairs_len, quads_len, quints_len]; omega) | rfl) | refine cons_eq ?_ ?_ | rfl | (simp [E.lend, E.lendC, E.ev, E.cv, E.get, E.fill', E.fill, AV.sh, AC.sh, Res.sh, ints_len, *]; done))) (hq : ∀ r S, Q r S → r.own = true ∧ S.all Res.own = true := by rintro r S ⟨rfl, rfl⟩; exact ⟨rfl, rfl⟩) (hN : d < N := by decide) (hkp : boxKeep RB R = true := by rfl) (hl : listed.setIfInBounds i true = listed' := by rfl) : DStep P N ops i ks RB fuel listed s R K :=
 d_heavy i hi hw (H_pcall1 ho hd hN hx hf h ha hq hk) hkp hl

def AllD (P : Program) (N : Nat) (ops : Array Oper) (ks : List Nat) (RB : List Res) (fuel : Nat) (listed : Array Bool) (s : Slots) (R : List Res) (K : Slots → List Res → Prop) : List Nat → Prop
 | [] => True
 | i :: l => DStep P N ops i ks RB fuel listed s R K ∧ AllD P N ops ks RB fuel listed s R K l
theorem AllD.mem : ∀ {l : List Nat}, AllD P N ops ks RB fuel listed s R K l → ∀ i ∈ l, DStep P N ops i ks RB fuel listed s R K
 | [], _, i, hi => by cases hi
 | j :: l, h, i, hi => by
  rcases List.mem_cons.1 hi with rfl | hi
  ·exact h.1
  ·exact AllD.mem h.2 i hi
theorem d_any (j : Nat) (l : List Nat) (h : AllD P N ops ks RB fuel listed s R K (j :: l)) (hr : Region.ready .any ops listed = j :: l := by kernel_rfl) : EAnyD P N ops ks RB (fuel + 1) listed s R K := by
 intro G wB WB a w W hsB ht hn hb hc hq
 refine ⟨fun h0 => (by rw [hr] at h0; cases h0), fun k hk => ?_⟩
 exact wpOp_mono (fun a' w' h' => .inl h') (h.mem k (hr ▸ hk) G wB WB a w W hsB ht hn hb hc hk hq)
end
end Go.Proofs.YthnadkagchbhbaaGreat.E

namespace Go.Proofs.YthnadkagchbhbaaGreat.E
open Go Go.RowKit
set_option linter.unusedVariables false
set_option linter.unusedSimpArgs false

theorem G_ghostS {P : Program} {N n : Nat} {s : Slots} {R : List Res} {Q : Exit → Slots → List Res → Prop} {c : Code} (t e k : Nat) (ht : E.get s t = .c (.sc (.slice none 0 0))) (hk : 0 < k)
  (h : GCode P N n c ((t, .c (.sl R.length 0 0 0)) :: s) (R ++ [Res.row e k []]) Q) : GCode P N n c s R Q := by
 intro w0 W0 R0 hl a w W hn htr
 obtain ⟨W1, t1, s1, q1⟩ := hn.sep.row (w' := w) (e := e) (k := k) (rows := []) (cells := []) (v := .slice none 0 0) rfl rfl rfl (Nat.le_refl _) (fun _ _ => rfl) hk (by simp) (World.ownsRow_nil w 0 e k) (fun b hb => by cases hb) (by exact (Ow.nil : Ow w [] [] _))
 have hn1 := hn.next t1 s1
 have hv : AVR W1 (R ++ [Res.row e k []]) w (.c (.sl R.length 0 0 0)) (.slice none 0 0) := by
  have := sl_whole (W' := W1) (R' := R ++ [.row e k []]) (w' := w) (i := R.length) (n := 0) (e := e) (k := k) (rows := []) (v := .slice none 0 0) (by simp) rfl q1 rfl s1
  exact this
 have hn2 : Now N ((t, .c (.sl R.length 0 0 0)) :: s) (R ++ [Res.row e k []]) a w W1 := by
  refine ⟨hn1.size, hn1.defers, fun t' => ?_, hn1.sep⟩
  simp only [E.get]
  split
  ·rename_i e'
   subst e'
   have hx := hn1.val t
   rw [ht] at hx
   have hx' : AR W1 (R ++ [Res.row e k []]) w [.sc (.slice none 0 0)] [_] := hx
   rw [AR.sc_inv hx']
   exact hv
  ·exact hn1.val t'
 exact h w0 W0 R0 hl a w W1 hn2 (htr.trans t1)
end Go.Proofs.YthnadkagchbhbaaGreat.E

namespace Go.Proofs.YthnadkagchbhbaaGreat.E
open Go Go.RowKit
set_option linter.unusedVariables false
set_option linter.unusedSimpArgs false

section
variable {P : Program} {N : Nat} {s : Slots} {R : List Res}
end

/-! Bits -/
end Go.Proofs.YthnadkagchbhbaaGreat.E

namespace Go.Proofs.YthnadkagchbhbaaGreat.E
open Go Go.RowKit Go.ChangeShapes Go.WideShapes Go.ChangeAt
set_option linter.unusedVariables false
set_option linter.unusedSimpArgs false

def bytes (l : List Int) : List (List T) := l.map fun x => [.sc (.int .u8 x)]
section
variable {H : Type} {enc : TypeId × Value → H} {P : Program} {w : World} {sp : Nat → Bool} {held : Bool}
end

end Go.Proofs.YthnadkagchbhbaaGreat.E

namespace Go.Proofs.YthnadkagchbhbaaGreat.E
open Go Go.RowKit Go.ChangeShapes Go.WideShapes Go.ChangeAt
set_option linter.unusedVariables false
set_option linter.unusedSimpArgs false

section
variable {P : Program} {N n : Nat} {ops : Array Oper} {s : Slots} {R : List Res}

end
end Go.Proofs.YthnadkagchbhbaaGreat.E

namespace Go.Proofs.YthnadkagchbhbaaGreat.E
open Go Go.RowKit
set_option linter.unusedVariables false
set_option linter.unusedSimpArgs false

/-! ### 1. Telling anew, where something is found out -/
def ShiftX {α : Type} (N : Nat) (s : Slots) (R : List Res) (s' : α → Slots) (R' : α → List Res) : Prop :=
 ∀ a w W, Now N s R a w W → ∃ x W', Now N (s' x) (R' x) a w W' ∧ Trans w W R w W' (R' x)

section
variable {P : Program} {N n : Nat} {s : Slots} {R : List Res} {Q : Exit → Slots → List Res → Prop} {K : Slots → List Res → Prop} {c : Code} {ops : Array Oper} {L : List Nat}

theorem ShiftX.E {α : Type} {s' : α → Slots} {R' : α → List Res} (h : ShiftX N s R s' R') (k : ∀ x, ECode P N c (s' x) (R' x) Q) : ECode P N c s R Q := by
 intro a w W hn
 obtain ⟨x, W', h1, h2⟩ := h a w W hn
 exact wp_mono (k x a w W' h1) fun e a' w' hr => hr.after h2
theorem ShiftX.G {α : Type} {s' : α → Slots} {R' : α → List Res} (h : ShiftX N s R s' R') (k : ∀ x, GCode P N n c (s' x) (R' x) Q) : GCode P N n c s R Q := by
 intro w0 W0 R0 h0 a w W hn ht
 obtain ⟨x, W', h1, h2⟩ := h a w W hn
 exact k x w0 W0 R0 h0 a w W' h1 (ht.trans h2)
theorem ShiftX.X {α : Type} {s' : α → Slots} {R' : α → List Res} (h : ShiftX N s R s' R') (k : ∀ x, EOps P N ops L (s' x) (R' x) K) : EOps P N ops L s R K := by
 intro Q a w W hn hq
 obtain ⟨x, W', h1, h2⟩ := h a w W hn
 exact k x Q a w W' h1 fun a' w' hr => hq a' w' (hr.after h2)
end

theorem Now.retell {N : Nat} {s : Slots} {R : List Res} {a : Act} {w : World} {W : Wit} (h : Now N s R a w W) {t : Nat} {y : AV} (hy : AVR W R w y (a.tmps.getD t undef)) : Now N ((t, y) :: s) R a w W := by
 refine ⟨h.size, h.defers, fun t' => ?_, h.sep⟩
 simp only [E.get]
 split
 ·rename_i e; subst e; exact hy
 ·exact h.val t'

/-! ### 2. Pins -/
theorem Sep.pin {w : World} {W : Wit} {R : List Res} {x : AC} {u : Value} (hs : Sep w W R) (h : AR W R w [x] [u]) : ∃ W', Trans w W R w W' (R ++ [.pin x u]) ∧ Sep w W' (R ++ [.pin x u]) := by
 have := hs.more (w' := w) (r := .pin x u) (v := undef) (F := fun _ => False) rfl rfl rfl (Nat.le_refl _) (fun _ _ => rfl) (fun b h => h.elim) (fun e => by cases e) (fun tr => ⟨fun _ h => h, h.next tr⟩)
 exact ⟨_, this.1, this.2⟩

section
variable {N : Nat} {s : Slots} {R : List Res}

/-- A cell's value is given a name; what was told of it is put down. -/
theorem X_pin (t : Nat) {x : AC} (ht : get s t = .c x) : ShiftX N s R (fun v : Value => (t, .c (.sc v)) :: s) (fun v => R ++ [.pin x v]) := by
 intro a w W hn
 have hv := hn.val t
 rw [ht] at hv
 have hv' : AR W R w [x] [a.tmps.getD t undef] := hv
 obtain ⟨W', t1, s1⟩ := hn.sep.pin hv'
 exact ⟨_, W', (hn.next t1 s1).retell (AR.sc1 (hv'.one _ (List.mem_cons_self ..))), t1⟩

/-- A named value is told by its pin. -/
theorem X_unpin (t q : Nat) {x : AC} {v : Value} (ht : get s t = .c (.sc v)) (hq : R[q]? = some (.pin x v)) : ShiftX N s R (fun _ : Unit => (t, .c x) :: s) (fun _ => R) := by
 intro a w W hn
 have hv := hn.val t
 rw [ht] at hv
 have hu : a.tmps.getD t undef = v := AR.sc_inv hv
 refine ⟨(), W, hn.retell ?_, .refl ..⟩
 rw [hu]
 exact (hn.sep.res q _ hq).2
end

/-! ### 3. Rows within rows -/
theorem flat_set1 {α : Type} {k : Nat} : ∀ {rows : List (List α)} (_ : ∀ r ∈ rows, r.length = k) {j p : Nat} {row : List α}, rows[j]? = some row → p < k → ∀ x, (rows.set j (row.set p x)).flatten = rows.flatten.set (j * k + p) x
 | [], _, j, p, row, h, _, x => by simp at h
 | r :: rows, hr, 0, p, row, h, hp, x => by
  obtain rfl : r = row := by simpa using h
  have := hr r (List.mem_cons_self ..)
  rw [List.set_cons_zero, List.flatten_cons, List.flatten_cons, Nat.zero_mul, Nat.zero_add, List.set_append_left _ _ (by omega)]
 | r :: rows, hr, j + 1, p, row, h, hp, x => by
  have h1 := hr r (List.mem_cons_self ..)
  have ih := flat_set1 (k := k) (fun r hr' => hr r (List.mem_cons_of_mem _ hr')) (show rows[j]? = some row by simpa using h) hp x
  rw [List.set_cons_succ, List.flatten_cons, List.flatten_cons, ih, List.set_append_right _ _ (by rw [h1, Nat.add_mul]; omega), h1, Nat.add_mul, Nat.one_mul]
  congr 2
  omega
theorem flat_at1 {α : Type} {k : Nat} : ∀ {rows : List (List α)} (_ : ∀ r ∈ rows, r.length = k) {j p : Nat} {row : List α}, rows[j]? = some row → p < k → rows.flatten[j * k + p]? = row[p]?
 | [], _, j, p, row, h, _ => by simp at h
 | r :: rows, hr, 0, p, row, h, hp => by
  obtain rfl : r = row := by simpa using h
  have := hr r (List.mem_cons_self ..)
  rw [List.flatten_cons, Nat.zero_mul, Nat.zero_add, List.getElem?_append_left (by omega)]
 | r :: rows, hr, j + 1, p, row, h, hp => by
  have h1 := hr r (List.mem_cons_self ..)
  have ih := flat_at1 (k := k) (fun r hr' => hr r (List.mem_cons_of_mem _ hr')) (show rows[j]? = some row by simpa using h) hp
  rw [List.flatten_cons, List.getElem?_append_right (by rw [h1, Nat.add_mul]; omega), h1, ← ih]
  congr 1
  rw [Nat.add_mul]
  omega
theorem set_rows {α : Type} {k : Nat} {rows : List (List α)} (h : ∀ r ∈ rows, r.length = k) {j p : Nat} {row : List α} (hj : rows[j]? = some row) (x : α) : ∀ r ∈ rows.set j (row.set p x), r.length = k := by
 intro r hr
 rcases List.mem_or_eq_of_mem_set hr with h1 | h1
 ·exact h r h1
 ·rw [h1, List.length_set]; exact h row (List.mem_of_getElem? hj)

/-- A named value among cells of one's own becomes a slice of one's own. -/
theorem Ow.absorb {w : World} {ts : List T} {vs : List Value} {F : Nat → Prop} (h : Ow w ts vs F) : ∀ (ix : Nat) {v : Value} {inner : List (List T)} {e k : Nat} {cells : List Value} {G : Nat → Prop}, ts[ix]? = some (.sc v) → 0 < k → (∀ r ∈ inner, r.length = k) → w.ownsRow 0 e k v inner.length cells → Ow w inner.flatten cells G → (∀ b, v.ownBlock = some b → ¬ G b) → (∀ b, v.ownBlock = some b ∨ G b → ¬ F b) →
  ∃ H, Ow w (ts.set ix (.sl inner)) vs H ∧ ∀ b, H b ↔ F b ∨ v.ownBlock = some b ∨ G b := by
 induction h with
 | nil => intro ix v inner e k cells G hx; simp at hx
 | @sc v0 ts0 vs0 F0 h1 h2 ih =>
  intro ix v inner e k cells G hx hk hr ho hi hd hF
  cases ix with
  | zero =>
   obtain rfl : v0 = v := by simpa using hx
   refine ⟨_, .sl e k hk hr ho hi h2 (fun b hb => ⟨hd b hb, hF b (.inl hb)⟩) (fun b hb => hF b (.inr hb)), fun b => ?_⟩
   constructor
   ·rintro (h | h | h)
    ·exact .inr (.inl h)
    ·exact .inr (.inr h)
    ·exact .inl h
   ·rintro (h | h | h)
    ·exact .inr (.inr h)
    ·exact .inl h
    ·exact .inr (.inl h)
  | succ ix =>
   obtain ⟨H, h3, h4⟩ := ih ix (by simpa using hx) hk hr ho hi hd hF
   exact ⟨H, .sc h1 h3, h4⟩
 | @sl rows0 v0 cells0 ts0 vs0 F0 G0 e0 k0 h1 h2 h3 h4 h5 h6 h7 ih1 ih2 =>
  intro ix v inner e k cells G hx hk hr ho hi hd hF
  cases ix with
  | zero => simp at hx
  | succ ix =>
   obtain ⟨H, h8, h9⟩ := ih2 ix (by simpa using hx) hk hr ho hi hd (fun b hb hn => hF b hb (.inr (.inr hn)))
   refine ⟨_, .sl e0 k0 h1 h2 h3 h4 h8 (fun b hb => ⟨(h6 b hb).1, fun hn => ?_⟩) (fun b hb hn => ?_), fun b => ?_⟩
   ·rcases (h9 b).1 hn with hn | hn
    ·exact (h6 b hb).2 hn
    ·exact hF b hn (.inl hb)
   ·rcases (h9 b).1 hn with hn | hn
    ·exact h7 b hb hn
    ·exact hF b hn (.inr (.inl hb))
   ·rw [h9 b]
    constructor
    ·rintro (h | h | h | h)
     ·exact .inl (.inl h)
     ·exact .inl (.inr (.inl h))
     ·exact .inl (.inr (.inr h))
     ·exact .inr h
    ·rintro ((h | h | h) | h)
     ·exact .inl h
     ·exact .inr (.inl h)
     ·exact .inr (.inr (.inl h))
     ·exact .inr (.inr (.inr h))

/-- A slice of one's own among cells is taken out; its value stays. -/
theorem Ow.focus {w : World} {ts : List T} {vs : List Value} {F : Nat → Prop} (h : Ow w ts vs F) : ∀ (ix : Nat) {inner : List (List T)}, ts[ix]? = some (.sl inner) →
  ∃ v e k cells G F', 0 < k ∧ (∀ r ∈ inner, r.length = k) ∧ w.ownsRow 0 e k v inner.length cells ∧ Ow w inner.flatten cells G ∧ (∀ b, v.ownBlock = some b → ¬ G b) ∧ (∀ b, v.ownBlock = some b ∨ G b → ¬ F' b) ∧ Ow w (ts.set ix (.sc v)) vs F' ∧ (∀ b, F b ↔ F' b ∨ v.ownBlock = some b ∨ G b) ∧ v.oneCell' = true := by
 induction h with
 | nil => intro ix inner hx; simp at hx
 | @sc v0 ts0 vs0 F0 h1 h2 ih =>
  intro ix inner hx
  cases ix with
  | zero => simp at hx
  | succ ix =>
   obtain ⟨v, e, k, cells, G, F', g1, g2, g3, g4, g5, g6, g7, g8, g9⟩ := ih ix (by simpa using hx)
   exact ⟨v, e, k, cells, G, F', g1, g2, g3, g4, g5, g6, .sc h1 g7, g8, g9⟩
 | @sl rows0 v0 cells0 ts0 vs0 F0 G0 e0 k0 h1 h2 h3 h4 h5 h6 h7 ih1 ih2 =>
  intro ix inner hx
  cases ix with
  | zero =>
   obtain rfl : rows0 = inner := by simpa using hx
   have hone : v0.oneCell' = true := (Ow.sl e0 k0 h1 h2 h3 h4 h5 h6 h7).one _ (List.mem_cons_self ..)
   refine ⟨v0, e0, k0, cells0, F0, G0, h1, h2, h3, h4, fun b hb => (h6 b hb).1, fun b hb => ?_, .sc hone h5, fun b => ?_, hone⟩
   ·rcases hb with hb | hb
    ·exact (h6 b hb).2
    ·exact h7 b hb
   ·constructor
    ·rintro (h | h | h)
     ·exact .inr (.inl h)
     ·exact .inr (.inr h)
     ·exact .inl h
    ·rintro (h | h | h)
     ·exact .inr (.inr h)
     ·exact .inl h
     ·exact .inr (.inl h)
  | succ ix =>
   obtain ⟨v, e, k, cells, G, F', g1, g2, g3, g4, g5, g6, g7, g8, g9⟩ := ih2 ix (by simpa using hx)
   refine ⟨v, e, k, cells, G, _, g1, g2, g3, g4, g5, fun b hb hn => ?_, .sl e0 k0 h1 h2 h3 h4 g7 (fun b hb => ⟨(h6 b hb).1, fun hn => (h6 b hb).2 ((g8 b).2 (.inl hn))⟩) (fun b hb hn => h7 b hb ((g8 b).2 (.inl hn))), fun b => ?_, g9⟩
   ·have hG : G0 b := (g8 b).2 (.inr hb)
    rcases hn with hn | hn | hn
    ·exact (h6 b hn).2 hG
    ·exact h7 b hn hG
    ·exact g6 b hb hn
   ·have := g8 b
    constructor
    ·rintro (h | h | h)
     ·exact .inl (.inl h)
     ·exact .inl (.inr (.inl h))
     ·rcases this.1 h with h | h
      ·exact .inl (.inr (.inr h))
      ·exact .inr h
    ·rintro ((h | h | h) | h)
     ·exact .inl h
     ·exact .inr (.inl h)
     ·exact .inr (.inr (this.2 (.inl h)))
     ·exact .inr (.inr (this.2 (.inr h)))

theorem slAt_self {w : World} {hv v : Value} {e k n : Nat} {cells : List Value} (ho : w.ownsRow 0 e k hv n cells) (h : slAt hv v k 0 n) : v = hv := by
 obtain ⟨a, n', c, e1, h1, h2⟩ := h
 rcases ho.2 with ⟨rfl, rfl⟩ | ⟨g, cap, cur, rfl, _, _, hn, _⟩
 ·cases e1
  rcases h2 with rfl | ⟨_, h3, _⟩
  ·rfl
  ·omega
 ·cases e1
  rcases h2 with rfl | ⟨_, h3, _⟩
  ·simp
  ·omega

theorem slAt_whole {w : World} {hv : Value} {e k n : Nat} {cells : List Value} (ho : w.ownsRow 0 e k hv n cells) : slAt hv hv k 0 n := by
 rcases ho.2 with ⟨rfl, rfl⟩ | ⟨g, cap, cur, rfl, _, _, hn, _⟩
 ·exact ⟨none, 0, 0, rfl, Nat.le_refl _, .inl rfl⟩
 ·exact ⟨some ⟨g, 0, none⟩, n, cap, rfl, by omega, .inl (by simp)⟩

/-- A row of one's own goes into a cell of another one, that holds its value. -/
theorem Sep.absorb {w : World} {W : Wit} {R : List Res} {i j p q m e k e' k' n : Nat} {rows inner : List (List T)} {cs : List T} {v : Value} (hs : Sep w W R) (hi : R[i]? = some (.row e k rows)) (hj : rows[j]? = some cs) (hp : cs[p]? = some (.sc v)) (hq : R[q]? = some (.pin (.sl m 0 n n) v)) (hm : R[m]? = some (.row e' k' inner)) (hn : inner.length = n) (him : i ≠ m) :
  ∃ W', Trans w W R w W' (((R.set i (.row e k (rows.set j (cs.set p (.sl inner))))).set m .gone).set q .gone) ∧ Sep w W' (((R.set i (.row e k (rows.set j (cs.set p (.sl inner))))).set m .gone).set q .gone) := by
 subst hn
 have hlt : ∀ {z : Nat} {r : Res}, R[z]? = some r → z < R.length := fun {z r} h => (List.getElem?_eq_some_iff.1 h).1
 have hil := hlt hi
 have hml := hlt hm
 have hql := hlt hq
 have qi : q ≠ i := fun h => by subst h; rw [hi] at hq; cases hq
 have qm : q ≠ m := fun h => by subst h; rw [hm] at hq; cases hq
 generalize hR' : ((R.set i (.row e k (rows.set j (cs.set p (.sl inner))))).set m .gone).set q .gone = R'
 have r_i : R'[i]? = some (.row e k (rows.set j (cs.set p (.sl inner)))) := by
  rw [← hR', List.getElem?_set_ne qi, List.getElem?_set_ne (Ne.symm him), List.getElem?_set_self hil]
 have r_m : R'[m]? = some .gone := by
  rw [← hR', List.getElem?_set_ne qm, List.getElem?_set_self (by rw [List.length_set]; exact hml)]
 have r_q : R'[q]? = some .gone := by
  rw [← hR', List.getElem?_set_self (by rw [List.length_set, List.length_set]; exact hql)]
 have r_o : ∀ z, z ≠ i → z ≠ m → z ≠ q → R'[z]? = R[z]? := fun z h1 h2 h3 => by
  rw [← hR', List.getElem?_set_ne (Ne.symm h3), List.getElem?_set_ne (Ne.symm h2), List.getElem?_set_ne (Ne.symm h1)]
 have hlen : R'.length = R.length := by rw [← hR', List.length_set, List.length_set, List.length_set]
 let W' : Wit := ⟨W.hs, fun z b => if z = i then W.fs i b ∨ W.fs m b else if z = m then False else W.fs z b⟩
 have hfs : ∀ z b, W'.fs z b → (z = i ∧ (W.fs i b ∨ W.fs m b)) ∨ (z ≠ i ∧ z ≠ m ∧ W.fs z b) := fun z b hb => by
  simp only [W'] at hb
  split at hb
  ·rename_i h; exact .inl ⟨h, hb⟩
  ·rename_i h
   split at hb
   ·exact hb.elim
   ·rename_i h2; exact .inr ⟨h, h2, hb⟩
 have tr : Trans w W R w W' R' := by
  refine ⟨rfl, rfl, rfl, Nat.le_refl _, fun _ _ => rfl, fun z b hb => ?_, fun z => ?_⟩
  ·rcases hfs z b hb with ⟨_, h | h⟩ | ⟨_, _, h⟩
   ·exact .inl ⟨_, h⟩
   ·exact .inl ⟨_, h⟩
   ·exact .inl ⟨_, h⟩
  ·by_cases h1 : z = i
   ·subst h1; rw [hi, r_i]; exact ⟨rfl, rfl, by rw [List.length_set]; exact Nat.le_refl _, fun _ => rfl⟩
   ·by_cases h2 : z = m
    ·subst h2; rw [hm, r_m]; exact trivial
    ·by_cases h3 : z = q
     ·subst h3; rw [hq, r_q]; exact trivial
     ·rw [r_o z h1 h2 h3]; exact Goes.refl _ _
 obtain ⟨f1, f2, cells, G, f3, f4, f5, f6⟩ := hs.res i _ hi
 obtain ⟨g1, g2, cells', G', g3, g4, g5, g6⟩ := hs.res m _ hm
 have hpin := hs.res q _ hq
 have hv : v = W.hs m := by
  have har := hpin.2
  cases har with
  | sl _ _ h3 _ => exact slAt_self g3 ((h3 _ _ _ hm).2 rfl)
 have hpk : p < k := by
  have h1 := (List.getElem?_eq_some_iff.1 hp).1
  rwa [f2 cs (List.mem_of_getElem? hj)] at h1
 obtain ⟨H, h1, h2⟩ := f4.absorb (j * k + p) (v := v) (inner := inner) (e := e') (k := k') (cells := cells') (G := G') (by rw [flat_at1 f2 hj hpk]; exact hp) g1 g2 (by rw [hv]; exact g3) g4 (by rw [hv]; exact g5) (fun b hb hn => by
  rw [hv] at hb
  exact him (hs.apart i m b ((f6 b).2 (.inr hn)) ((g6 b).2 hb)))
 refine ⟨W', tr, fun z r hr => ?_, fun z hz b hb => ?_, fun z hz b hb => ?_, fun z y b hb hc => ?_, fun z b hb => ?_⟩
 ·by_cases e1 : z = i
  ·subst e1
   rw [r_i] at hr
   obtain rfl := Option.some.inj hr
   refine ⟨f1, set_rows f2 hj _, cells, H, by rw [List.length_set]; exact f3, by rw [flat_set1 f2 hj hpk]; exact h1, fun b hb hn => ?_, fun b => ?_⟩
   ·rcases (h2 b).1 hn with h | h
    ·exact f5 b hb h
    ·rw [hv] at h
     exact him (hs.apart _ m b ((f6 b).2 (.inl hb)) ((g6 b).2 h))
   ·simp only [W', if_true]
    rw [h2 b, f6 b, g6 b, hv]
    constructor
    ·rintro ((h | h) | h)
     ·exact .inl h
     ·exact .inr (.inl h)
     ·exact .inr (.inr h)
    ·rintro (h | h | h)
     ·exact .inl (.inl h)
     ·exact .inl (.inr h)
     ·exact .inr h
  ·by_cases e2 : z = m
   ·subst e2; rw [r_m] at hr; obtain rfl := Option.some.inj hr; exact trivial
   ·by_cases e3 : z = q
    ·subst e3; rw [r_q] at hr; obtain rfl := Option.some.inj hr; exact trivial
    ·rw [r_o z e1 e2 e3] at hr
     have k2 : W'.fs z = W.fs z := by funext b; simp [W', e1, e2]
     rw [k2]
     exact (hs.res z r hr).next tr fun _ _ => rfl
 ·rw [hlen] at hz
  rcases hfs z b hb with ⟨h, _⟩ | ⟨_, _, h⟩
  ·omega
  ·exact hs.out z hz b h
 ·rcases hfs z b hb with ⟨h, _⟩ | ⟨e1, e2, h⟩
  ·subst h; rw [r_i] at hz; cases hz
  ·by_cases e3 : z = q
   ·subst e3; exact hpin.1 b h
   ·rw [r_o z e1 e2 e3] at hz; exact hs.gone z hz b h
 ·rcases hfs z b hb with ⟨e1, h⟩ | ⟨e1, e2, h⟩
  ·rcases hfs y b hc with ⟨e3, h'⟩ | ⟨e3, e4, h'⟩
   ·rw [e1, e3]
   ·rcases h with h | h
    ·exact absurd (hs.apart _ _ b h' h) e3
    ·exact absurd (hs.apart _ _ b h' h) e4
  ·rcases hfs y b hc with ⟨e3, h'⟩ | ⟨e3, e4, h'⟩
   ·rcases h' with h' | h'
    ·exact absurd (hs.apart _ _ b h h') e1
    ·exact absurd (hs.apart _ _ b h h') e2
   ·exact hs.apart _ _ b h h'
 ·rcases hfs z b hb with ⟨_, h | h⟩ | ⟨_, _, h⟩
  ·exact hs.lt _ b h
  ·exact hs.lt _ b h
  ·exact hs.lt _ b h

/-- .. and a slice of one's own within another row stands as a resource of its own. -/
theorem Sep.focus {w : World} {W : Wit} {R : List Res} {i j p e k : Nat} {rows inner : List (List T)} {cs : List T} (hs : Sep w W R) (hi : R[i]? = some (.row e k rows)) (hj : rows[j]? = some cs) (hp : cs[p]? = some (.sl inner)) :
  ∃ v e' k' W', 0 < k' ∧ (∀ r ∈ inner, r.length = k') ∧ Trans w W R w W' (R.set i (.row e k (rows.set j (cs.set p (.sc v)))) ++ [.row e' k' inner, .pin (.sl R.length 0 inner.length inner.length) v]) ∧ Sep w W' (R.set i (.row e k (rows.set j (cs.set p (.sc v)))) ++ [.row e' k' inner, .pin (.sl R.length 0 inner.length inner.length) v]) := by
 have hil : i < R.length := (List.getElem?_eq_some_iff.1 hi).1
 obtain ⟨f1, f2, cells, Gt, f3, f4, f5, f6⟩ := hs.res i _ hi
 have hpk : p < k := by
  have h1 := (List.getElem?_eq_some_iff.1 hp).1
  rwa [f2 cs (List.mem_of_getElem? hj)] at h1
 obtain ⟨v, e', k', cells', G, F', g1, g2, g3, g4, g5, g6, g7, g8, g9⟩ := f4.focus (j * k + p) (inner := inner) (by rw [flat_at1 f2 hj hpk]; exact hp)
 refine ⟨v, e', k', ?_⟩
 generalize hR' : R.set i (.row e k (rows.set j (cs.set p (.sc v)))) ++ [.row e' k' inner, .pin (.sl R.length 0 inner.length inner.length) v] = R'
 have hls : (R.set i (.row e k (rows.set j (cs.set p (.sc v))))).length = R.length := List.length_set ..
 have r_i : R'[i]? = some (.row e k (rows.set j (cs.set p (.sc v)))) := by rw [← hR', List.getElem?_append_left (by omega), List.getElem?_set_self hil]
 have r_n : R'[R.length]? = some (.row e' k' inner) := by rw [← hR', List.getElem?_append_right (by omega), hls, Nat.sub_self]; rfl
 have r_p : R'[R.length + 1]? = some (.pin (.sl R.length 0 inner.length inner.length) v) := by rw [← hR', List.getElem?_append_right (by omega), hls, Nat.add_sub_cancel_left]; rfl
 have r_o : ∀ z, z < R.length → z ≠ i → R'[z]? = R[z]? := fun z h1 h2 => by rw [← hR', List.getElem?_append_left (by omega), List.getElem?_set_ne (Ne.symm h2)]
 have hlen : R'.length = R.length + 2 := by rw [← hR', List.length_append, hls]; rfl
 let W' : Wit := ⟨fun z => if z = R.length then v else W.hs z, fun z b => if z = R.length then (v.ownBlock = some b ∨ G b) else if z = i then W.fs i b ∧ ¬ (v.ownBlock = some b ∨ G b) else if z < R.length then W.fs z b else False⟩
 have sub : ∀ b, (v.ownBlock = some b ∨ G b) → W.fs i b := fun b hb => (f6 b).2 (.inr ((g8 b).2 (.inr hb)))
 have hfs : ∀ z b, W'.fs z b → (z = R.length ∧ (v.ownBlock = some b ∨ G b)) ∨ (z = i ∧ W.fs i b ∧ ¬ (v.ownBlock = some b ∨ G b)) ∨ (z < R.length ∧ z ≠ i ∧ W.fs z b) := fun z b hb => by
  simp only [W'] at hb
  split at hb
  ·rename_i h; exact .inl ⟨h, hb⟩
  ·split at hb
   ·rename_i h; exact .inr (.inl ⟨h, hb⟩)
   ·rename_i h1 h2
    split at hb
    ·rename_i h3; exact .inr (.inr ⟨h3, h2, hb⟩)
    ·exact hb.elim
 have tr : Trans w W R w W' R' := by
  refine ⟨rfl, rfl, rfl, Nat.le_refl _, fun _ _ => rfl, fun z b hb => ?_, fun z => ?_⟩
  ·rcases hfs z b hb with ⟨_, h⟩ | ⟨_, h, _⟩ | ⟨_, _, h⟩
   ·exact .inl ⟨_, sub b h⟩
   ·exact .inl ⟨_, h⟩
   ·exact .inl ⟨_, h⟩
  ·rcases Nat.lt_or_ge z R.length with hz | hz
   ·have hh : W'.hs z = W.hs z := by simp [W', Nat.ne_of_lt hz]
    rw [hh]
    by_cases h1 : z = i
    ·subst h1; rw [hi, r_i]; exact ⟨rfl, rfl, by rw [List.length_set]; exact Nat.le_refl _, fun _ => rfl⟩
    ·rw [r_o z hz h1]; exact Goes.refl _ _
   ·rw [List.getElem?_eq_none hz]; exact trivial
 refine ⟨W', g1, g2, tr, fun z r hr => ?_, fun z hz b hb => ?_, fun z hz b hb => ?_, fun z y b hb hc => ?_, fun z b hb => ?_⟩
 ·rcases Nat.lt_or_ge z R.length with hz | hz
  ·have hh : W'.hs z = W.hs z := by simp [W', Nat.ne_of_lt hz]
   rw [hh]
   by_cases e1 : z = i
   ·subst e1
    rw [r_i] at hr
    obtain rfl := Option.some.inj hr
    refine ⟨f1, set_rows f2 hj _, cells, F', by rw [List.length_set]; exact f3, by rw [flat_set1 f2 hj hpk]; exact g7, fun b hb hn => f5 b hb ((g8 b).2 (.inl hn)), fun b => ?_⟩
    simp only [W', Nat.ne_of_lt hz, if_false, if_true]
    rw [f6 b, g8 b]
    constructor
    ·rintro ⟨h | h | h, hn⟩
     ·exact .inl h
     ·exact .inr h
     ·exact absurd h hn
    ·rintro (h | h)
     ·exact ⟨.inl h, fun hn => f5 b h ((g8 b).2 (.inr hn))⟩
     ·exact ⟨.inr (.inl h), fun hn => g6 b hn h⟩
   ·rw [r_o z hz e1] at hr
    have k2 : W'.fs z = W.fs z := by funext b; simp [W', Nat.ne_of_lt hz, e1, hz]
    rw [k2]
    exact (hs.res z r hr).next tr fun _ _ => rfl
  ·rcases Nat.lt_or_ge z (R.length + 2) with hz2 | hz2
   ·rcases Nat.eq_or_lt_of_le hz with e1 | e1
    ·subst e1
     rw [r_n] at hr
     obtain rfl := Option.some.inj hr
     have h1 : W'.hs R.length = v := by simp [W']
     rw [h1]
     exact ⟨g1, g2, cells', G, g3, g4, g5, fun b => by simp [W']⟩
    ·obtain rfl : z = R.length + 1 := by omega
     rw [r_p] at hr
     obtain rfl := Option.some.inj hr
     refine ⟨fun b hb => ?_, .sl g9 (by omega) (fun e2 k2 rows2 hr2 => ?_) .nil⟩
     ·rcases hfs _ b hb with ⟨h, _⟩ | ⟨h, _⟩ | ⟨h, _⟩ <;> omega
     ·rw [r_n] at hr2
      cases hr2
      have h1 : W'.hs R.length = v := by simp [W']
      rw [h1]
      exact ⟨Nat.le_refl _, fun _ => slAt_whole g3⟩
   ·rw [List.getElem?_eq_none (by omega)] at hr; cases hr
 ·rcases hfs z b hb with ⟨h, _⟩ | ⟨h, _⟩ | ⟨h, _⟩ <;> omega
 ·rcases hfs z b hb with ⟨h, _⟩ | ⟨h, _⟩ | ⟨h1, h2, h⟩
  ·subst h; rw [r_n] at hz; cases hz
  ·subst h; rw [r_i] at hz; cases hz
  ·rw [r_o z h1 h2] at hz; exact hs.gone z hz b h
 ·rcases hfs z b hb with ⟨e1, h⟩ | ⟨e1, h, hn⟩ | ⟨e1, e2, h⟩ <;> rcases hfs y b hc with ⟨e3, h'⟩ | ⟨e3, h', hn'⟩ | ⟨e3, e4, h'⟩
  ·rw [e1, e3]
  ·exact absurd h hn'
  ·exact absurd (hs.apart _ _ b h' (sub b h)) e4
  ·exact absurd h' hn
  ·rw [e1, e3]
  ·exact absurd (hs.apart _ _ b h' h) e4
  ·exact absurd (hs.apart _ _ b h (sub b h')) e2
  ·exact absurd (hs.apart _ _ b h h') e2
  ·exact hs.apart _ _ b h h'
 ·rcases hfs z b hb with ⟨_, h⟩ | ⟨_, h, _⟩ | ⟨_, _, h⟩
  ·exact hs.lt _ b (sub b h)
  ·exact hs.lt _ b h
  ·exact hs.lt _ b h

section
variable {N : Nat} {s : Slots} {R : List Res}
theorem X_absorb (i j p q m : Nat) {e k e' k' n : Nat} {rows inner : List (List T)} {cs : List T} {v : Value} {R' : List Res} (hi : R[i]? = some (.row e k rows)) (hj : rows[j]? = some cs) (hp : cs[p]? = some (.sc v)) (hq : R[q]? = some (.pin (.sl m 0 n n) v)) (hm : R[m]? = some (.row e' k' inner)) (hn : inner.length = n) (him : i ≠ m)
  (hR : ((R.set i (.row e k (rows.set j (cs.set p (.sl inner))))).set m .gone).set q .gone = R') : ShiftX N s R (fun _ : Unit => s) (fun _ => R') := by
 subst hR
 intro a w W hn'
 obtain ⟨W', h1, h2⟩ := hn'.sep.absorb hi hj hp hq hm hn him
 exact ⟨(), W', hn'.next h1 h2, h1⟩

theorem X_focus (i j p : Nat) {e k : Nat} {rows inner : List (List T)} {cs : List T} (hi : R[i]? = some (.row e k rows)) (hj : rows[j]? = some cs) (hp : cs[p]? = some (.sl inner)) :
  ShiftX N s R (fun _ : { x : Value × Nat × Nat // 0 < x.2.2 ∧ ∀ r ∈ inner, r.length = x.2.2 } => s) (fun x => R.set i (.row e k (rows.set j (cs.set p (.sc x.1.1)))) ++ [.row x.1.2.1 x.1.2.2 inner, .pin (.sl R.length 0 inner.length inner.length) x.1.1]) := by
 intro a w W hn'
 obtain ⟨v, e', k', W', g1, g2, h1, h2⟩ := hn'.sep.focus hi hj hp
 exact ⟨⟨(v, e', k'), g1, g2⟩, W', hn'.next h1 h2, h1⟩
end
end Go.Proofs.YthnadkagchbhbaaGreat.E

namespace Go.Proofs.YthnadkagchbhbaaGreat.E
open Go Go.RowKit
set_option linter.unusedVariables false
def vrow (vs : List Value) : List (List T) := vs.map fun v => [.sc v]
theorem vrow_len (vs : List Value) : (vrow vs).length = vs.length := by simp [vrow]
theorem vrow_row (vs : List Value) : ∀ r ∈ vrow vs, r.length = 1 ∧ r.all isSc = true := by
 intro r hr
 obtain ⟨v, _, rfl⟩ := List.mem_map.1 hr
 exact ⟨rfl, rfl⟩
end Go.Proofs.YthnadkagchbhbaaGreat.E
