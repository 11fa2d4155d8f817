/- Words of the session's own, sixth part: stores, new variables, calls, what a function comes to. -/
import Derived.Test.YtkaikajjhhnifaaE5
namespace Go.Proofs.Ytkaikajjhhnifaa.E
open Go Go.RowKit
set_option linter.unusedVariables false
set_option linter.unusedSimpArgs false

/-! ### 1. Stores -/
def cellsOf : AV → Option (List AC)
  | .c x => some [x]
  | .agg xs => some xs
  | _ => none

theorem cells_one {v : Value} (h : v.oneCell' = true) : v.cells.toList = [v] := by
  cases v <;> first | rfl | (simp [Value.oneCell'] at h)

theorem cells_rel {W : Wit} {R : List Res} {w : World} {y : AV} {v : Value} {ys : List AC} (hy : AVR W R w y v) (h : cellsOf y = some ys) : AR W R w ys v.cells.toList := by
  unfold cellsOf at h
  split at h
  · obtain rfl := Option.some.inj h
    have h1 : AR W R w [_] [v] := hy
    rw [cells_one (h1.one v (List.mem_cons_self ..))]
    exact h1
  · obtain rfl := Option.some.inj h
    obtain ⟨vs, rfl, h1⟩ := hy
    exact h1
  · cases h

theorem getElem?_splice {α : Type} (l : List α) (o : Nat) (ys : List α) (h : o ≤ l.length) (q : Nat) : (splice l o ys)[q]? = if q < o then l[q]? else if q < o + ys.length then ys[q - o]? else l[q]? := by
  unfold splice
  rw [List.append_assoc, List.getElem?_append]
  simp only [List.length_take, Nat.min_eq_left h]
  split
  · rename_i h1; rw [List.getElem?_take, if_pos h1]
  · rename_i h1
    rw [List.getElem?_append]
    split
    · rename_i h2; rw [if_pos (by omega)]
    · rename_i h2; rw [if_neg (by omega), List.getElem?_drop]; congr 1; omega

theorem take_splice {α : Type} (l : List α) (o m : Nat) (ys : List α) (h : o + ys.length ≤ m) (hm : m ≤ l.length) : (splice l o ys).take m = splice (l.take m) o ys := by
  apply List.ext_getElem?
  intro q
  rw [List.getElem?_take, getElem?_splice _ _ _ (by omega), getElem?_splice _ _ _ (by rw [List.length_take]; omega)]
  simp only [List.getElem?_take]
  by_cases h1 : q < m
  · simp [h1]
  · simp only [h1, if_false, show ¬ q < o by omega, show ¬ q < o + ys.length by omega]

theorem flatten_set {α : Type} {k : Nat} : ∀ {rows : List (List α)} (_ : ∀ r ∈ rows, r.length = k) {j : Nat} {row : List α} (_ : rows[j]? = some row) (off : Nat) (ts : List α), off + ts.length ≤ k → (rows.set j (splice row off ts)).flatten = splice rows.flatten (j * k + off) ts
  | [], _, j, row, h, _, _, _ => by simp at h
  | r :: rows, hk, 0, row, h, off, ts, hl => by
    obtain rfl : r = row := by simpa using h
    have h0 := hk r (List.mem_cons_self ..)
    simp only [List.set_cons_zero, List.flatten_cons, Nat.zero_mul, Nat.zero_add]
    simp only [splice, List.append_assoc]
    rw [List.take_append_of_le_length (by omega), List.drop_append_of_le_length (by omega)]
  | r :: rows, hk, j + 1, row, h, off, ts, hl => by
    have h0 := hk r (List.mem_cons_self ..)
    have ih := flatten_set (fun x hx => hk x (List.mem_cons_of_mem _ hx)) (show rows[j]? = some row by simpa using h) off ts hl
    simp only [List.set_cons_succ, List.flatten_cons, ih]
    apply List.ext_getElem?
    intro q
    have hj : j < rows.length := by
      rcases Nat.lt_or_ge j rows.length with h' | h'
      · exact h'
      · simp [List.getElem?_eq_none h'] at h
    have hfl := flatten_len (fun x hx => hk x (List.mem_cons_of_mem _ hx))
    have hjk : j * k + k ≤ rows.length * k := by rw [← Nat.succ_mul]; exact Nat.mul_le_mul_right k hj
    have e1 : (j + 1) * k = k + j * k := by rw [Nat.add_mul]; omega
    rw [List.getElem?_append, getElem?_splice _ _ _ (by omega), getElem?_splice _ _ _ (by rw [List.length_append]; omega), e1, h0, List.getElem?_append, h0]
    by_cases h1 : q < k
    · simp [h1, show q < k + j * k + off by omega]
    · simp only [h1, if_false]
      by_cases h2 : q - k < j * k + off
      · simp [h2, show q < k + j * k + off by omega]
      · simp only [h2, if_false, show ¬ q < k + j * k + off by omega]
        by_cases h3 : q - k < j * k + off + ts.length
        · simp only [h3, if_true, show q < k + j * k + off + ts.length by omega]
          congr 1; omega
        · simp [h3, show ¬ q < k + j * k + off + ts.length by omega]

def isSc : T → Bool
  | .sc _ => true
  | .sl _ => false

theorem splice_zero_cons {α : Type} (a y : α) (l ys : List α) : splice (a :: l) 0 (y :: ys) = y :: splice l 0 ys := by simp [splice]
theorem splice_succ {α : Type} (a : α) (l ys : List α) (p : Nat) : splice (a :: l) (p + 1) ys = a :: splice l p ys := by
  simp [splice, show p + 1 + ys.length = (p + ys.length) + 1 by omega]

/-- Scalars put where scalars stood. -/
theorem Ow.splice {w : World} {ts : List T} {vs : List Value} {F : Nat → Prop} (h : Ow w ts vs F) : ∀ (p : Nat) (xs : List Value), (∀ x ∈ xs, x.oneCell' = true) → p + xs.length ≤ ts.length → ((ts.drop p).take xs.length).all isSc = true →
    Ow w (E.splice ts p (xs.map T.sc)) (E.splice vs p xs) F := by
  induction h with
  | nil =>
    intro p xs _ hl _
    obtain rfl : p = 0 := by simp at hl; omega
    obtain rfl : xs = [] := by simpa using hl
    exact .nil
  | sc h1 h2 ih =>
    intro p xs hx hl ha
    cases p with
    | zero =>
      cases xs with
      | nil => simpa [splice_nil] using Ow.sc h1 h2
      | cons x xs =>
        rw [List.map_cons, splice_zero_cons, splice_zero_cons]
        exact .sc (hx x (List.mem_cons_self ..)) (ih 0 xs (fun y hy => hx y (List.mem_cons_of_mem _ hy)) (by simpa using hl) (by simpa [isSc] using ha))
    | succ p =>
      rw [splice_succ, splice_succ]
      exact .sc h1 (ih p xs hx (by simp at hl; omega) (by simpa using ha))
  | sl e k h1 h2 h3 h4 h5 h6 h7 _ ih2 =>
    intro p xs hx hl ha
    cases p with
    | zero =>
      cases xs with
      | nil => simpa [splice_nil] using Ow.sl e k h1 h2 h3 h4 h5 h6 h7
      | cons x xs => simp [isSc] at ha
    | succ p =>
      rw [splice_succ, splice_succ]
      exact .sl e k h1 h2 h3 h4 (ih2 p xs hx (by simp at hl; omega) (by simpa using ha)) h6 h7

def act : AC → Option Value
  | .sc v => some v
  | _ => none

/-- What a store makes of the resources. -/
def stv (P : Program) (R : List Res) (t : TypeId) (x : AV) (ys : List AC) : Option (List Res) :=
  match x, tyIs P t with
  | .c (.bp i off), some (_, n) => match R[i]? with
    | some (.box cs) => if ys.length = n ∧ off + n ≤ cs.length then some (R.set i (.box (splice cs off ys))) else none
    | _ => none
  | .c (.ep i j off tot), some (_, n) => match R[i]?, ys.mapM act with
    | some (.row e k rows), some xs => match rows[j]? with
      | some row => if rows.length = tot ∧ xs.length = n ∧ off + n ≤ k ∧ ((row.drop off).take n).all isSc = true then some (R.set i (.row e k (rows.set j (splice row off (xs.map T.sc))))) else none
      | none => none
    | _, _ => none
  | _, _ => none

theorem mapM_act {W : Wit} {R : List Res} {w : World} : ∀ {ys : List AC} {xs vs : List Value}, ys.mapM act = some xs → AR W R w ys vs → vs = xs ∧ ∀ x ∈ xs, x.oneCell' = true
  | [], xs, vs, h, ha => by
    obtain rfl : [] = xs := by simpa using h
    cases ha
    exact ⟨rfl, by simp⟩
  | y :: ys, xs, vs, h, ha => by
    cases y with
    | sc v =>
      simp only [List.mapM_cons, act, Option.pure_def, Option.bind_eq_bind, Option.bind_some] at h
      cases hm : ys.mapM act with
      | none => rw [hm] at h; cases h
      | some zs =>
        rw [hm] at h
        obtain rfl : v :: zs = xs := by simpa using h
        cases ha with
        | sc h1 h2 =>
          obtain ⟨rfl, h4⟩ := mapM_act hm h2
          exact ⟨rfl, fun x hx => by rcases List.mem_cons.1 hx with rfl | hx; exact h1; exact h4 x hx⟩
    | _ => simp [act] at h

theorem Sep.turn {w w' : World} {W : Wit} {R : List Res} {i b : Nat} {r r' : Res} {arr' : List Value} {e : TypeId} (hs : Sep w W R) (hr : R[i]? = some r) (hb : W.fs i b) (ht : Turned w w' b arr' e)
    (hg : ∀ v, Goes v v (some r) (some r')) (hn : r' ≠ .gone) (hres : Trans w W R w' W (R.set i r') → ResRel w' W (R.set i r') (W.hs i) (W.fs i) r') : Trans w W R w' W (R.set i r') ∧ Sep w' W (R.set i r') := by
  have hi : i < R.length := by
    rcases Nat.lt_or_ge i R.length with h' | h'
    · exact h'
    · rw [List.getElem?_eq_none h'] at hr; cases hr
  have tr : Trans w W R w' W (R.set i r') := by
    refine ⟨ht.os, ht.tape, ht.output, Nat.le_of_eq ht.size.symm, fun c hc => ht.other c (fun e => hc.2 i (e ▸ hb)), fun j c hj => .inl ⟨j, hj⟩, fun j => ?_⟩
    by_cases e : i = j
    · subst e
      rw [List.getElem?_set_self hi, hr]
      exact hg _
    · rw [List.getElem?_set_ne e]
      exact Goes.refl _ _
  refine ⟨tr, hs.step tr i (fun j h1 _ => by simpa using h1) (fun j h1 _ => List.getElem?_set_ne (Ne.symm h1)) (fun _ _ => rfl) (fun _ _ _ => Iff.rfl) (fun j h1 c hc => ht.other c (fun e => h1 (hs.apart j i b (e ▸ hc) hb))) (fun q hq => ?_) (fun c hc => .inl hc) (fun c hc => by rw [ht.size]; exact hs.lt i c hc) (fun h => absurd hi (by simp at h; omega)) (fun h => ?_)⟩
  · rw [List.getElem?_set_self hi] at hq
    obtain rfl := Option.some.inj hq
    exact hres tr
  · rw [List.getElem?_set_self hi] at h
    exact absurd (Option.some.inj h) hn

theorem AR.splice {W : Wit} {R : List Res} {w : World} {cs ys : List AC} {vs us : List Value} (h : AR W R w cs vs) (hy : AR W R w ys us) (o : Nat) : AR W R w (E.splice cs o ys) (E.splice vs o us) := by
  unfold E.splice
  rw [hy.length]
  exact ((h.take o).append hy).append (h.drop _)

section
variable {P : Program} {N : Nat} {s : Slots} {R : List Res} {K : Slots → List Res → Prop}

theorem stv_run {w : World} {W : Wit} {t : TypeId} {x : AV} {v u : Value} {y : AV} {ys : List AC} {R' : List Res} (hs : Sep w W R) (hx : AVR W R w x v) (hy : AVR W R w y u) (hys : cellsOf y = some ys) (h : stv P R t x ys = some R') :
    ∃ w', (Instr.storeAt t v u).run P w = .ok () w' ∧ Trans w W R w' W R' ∧ Sep w' W R' := by
  have hc := cells_rel hy hys
  have hcl := hc.length
  unfold stv at h
  split at h
  · rename_i i off bb n ht
    split at h
    · rename_i cs hR
      split at h
      · rename_i hl
        obtain ⟨hl1, hl2⟩ := hl
        obtain rfl := Option.some.inj h
        cases hx with
        | bp h1 h2 h3 _ =>
          obtain ⟨b, e1, e2⟩ := h3 cs hR
          obtain ⟨b', arr, e, f1, f2, f3, f4⟩ := hs.res i _ hR
          rw [e1] at f1
          obtain rfl : b = b' := by cases f1; rfl
          subst e2
          obtain ⟨w', g1, g2⟩ := run_storeCells_ (P := P) (b := b) (o := off) u.cells.toList 0 w arr f3 hc.one (by have := f4.length; simp only [Array.length_toList] at this hcl ⊢; omega)
          obtain ⟨k1, k2⟩ := hs.turn (r' := .box (E.splice cs off ys)) hR ((f2 b).2 rfl) g2 (fun _ => rfl) (by simp) (fun tr => by
            obtain ⟨arr', m1, m2⟩ := g2.at_
            exact ⟨b, arr', e, e1, f2, m2, by rw [m1]; exact (f4.splice hc off).next tr⟩)
          refine ⟨w', ?_, k1, k2⟩
          have hsz : u.cells.size = n := by rw [← Array.length_toList, ← hcl, hl1]
          simp only [Instr.storeAt, Instr.sureAddr, Sem.run_bind, Sem.run_pure, Result.andThen_ok, storeVar, run_sizeOf_ ht, hsz]
          simpa using g1
      · cases h
    · cases h
  · rename_i i j off tot bb n ht
    split at h
    · rename_i e k rows xs hR hm
      split at h
      · rename_i row hrow
        split at h
        · rename_i hcond
          obtain ⟨c1, c2, c3, c4⟩ := hcond
          obtain rfl := Option.some.inj h
          obtain ⟨m1, m2⟩ := mapM_act hm hc
          cases hx with
          | ep h1 h2 h3 _ =>
            obtain ⟨b, nn, c, e1, e2⟩ := (h3 _ _ _ hR).2 c1
            subst e2
            obtain ⟨f1, f2, cells, G, f3, f4, f5, f6⟩ := hs.res i _ hR
            have hjl : j < rows.length := by
              rcases Nat.lt_or_ge j rows.length with h' | h'
              · exact h'
              · rw [List.getElem?_eq_none h'] at hrow; cases hrow
            have hjk : j * k + k ≤ rows.length * k := by rw [← Nat.succ_mul]; exact Nat.mul_le_mul_right k hjl
            have hfl := flatten_len f2
            rcases f3.2 with ⟨g4, g5⟩ | ⟨g, cap, cur, g4, _, g5, g6, g7, g8, g9⟩
            · rw [e1] at g4; cases g4
            · rw [e1] at g4
              obtain ⟨rfl, rfl, rfl⟩ : b = g ∧ nn = rows.length ∧ c = cap := by cases g4; exact ⟨rfl, rfl, rfl⟩
              have hcap : rows.length * k ≤ cur.size := by rw [g8]; exact Nat.mul_le_mul_right k g6
              have hxl : u.cells.toList.length = n := by rw [m1, c2]
              obtain ⟨w', p1, p2⟩ := run_storeCells_ (P := P) (b := b) (o := j * k + off) u.cells.toList 0 w cur g5 hc.one (by omega)
              have hob : (W.hs i).ownBlock = some b := by rw [e1]; rfl
              obtain ⟨k1, k2⟩ := hs.turn (r' := .row e k (rows.set j (E.splice row off (xs.map T.sc)))) hR ((f6 b).2 (.inl hob)) p2 (fun _ => ⟨rfl, rfl, by simp, fun _ => rfl⟩) (by simp) (fun tr => by
                obtain ⟨arr', q1, q2⟩ := p2.at_
                have hrk : ∀ r ∈ rows.set j (E.splice row off (xs.map T.sc)), r.length = k := by
                  intro r hr
                  rcases List.mem_or_eq_of_mem_set hr with hr | rfl
                  · exact f2 r hr
                  · rw [length_splice _ _ _ (by rw [f2 row (List.mem_of_getElem? hrow)]; simp; omega)]; exact f2 row (List.mem_of_getElem? hrow)
                have hflat := flatten_set f2 hrow off (xs.map T.sc) (by simp; omega)
                have hle : j * k + off + u.cells.toList.length ≤ rows.length * k := by omega
                have hcells : arr'.toList.take (rows.length * k) = E.splice cells (j * k + off) xs := by
                  rw [q1, Nat.add_zero, take_splice _ _ _ _ hle (by simpa using hcap), g9, m1]
                have hclen : cells.length = rows.length * k := f3.1
                have hz2 : u.cells.size = n := by rw [← hxl, Array.length_toList]
                have hz1 : j * k + off + 0 + u.cells.toList.length ≤ cur.toList.length := by simp only [Array.length_toList]; omega
                have hasz : arr'.size = c * k := by rw [← Array.length_toList, q1, length_splice _ _ _ hz1, Array.length_toList, g8]
                refine ⟨f1, hrk, E.splice cells (j * k + off) xs, G, ⟨?_, .inr ⟨b, c, arr', ?_, Nat.zero_le _, q2, ?_, g7, hasz, ?_⟩⟩, ?_, f5, f6⟩
                · rw [length_splice _ _ _ (by omega), List.length_set, hclen]
                · rw [e1, List.length_set]
                · rw [List.length_set]; exact g6
                · rw [List.length_set]; exact hcells
                · rw [hflat]
                  refine (f4.splice (j * k + off) xs m2 (by rw [f4.length]; omega) ?_).mono (fun z hz => p2.other z (fun ez => f5 b hob (ez ▸ hz)))
                  have : ((rows.flatten.drop (j * k)).take k).drop off |>.take n |>.all isSc := by rw [flatten_row f2 hrow]; exact c4
                  rw [List.drop_take, List.take_take, List.drop_drop] at this
                  rw [c2]
                  rwa [Nat.min_eq_left (by omega)] at this)
              refine ⟨w', ?_, k1, k2⟩
              have hsz : u.cells.size = n := by rw [← Array.length_toList, hxl]
              simp only [Instr.storeAt, Instr.sureAddr, Sem.run_bind, Sem.run_pure, Result.andThen_ok, storeVar, run_sizeOf_ ht, hsz]
              simpa using p1
        · cases h
      · cases h
    · cases h
  · cases h

theorem EOp_store {o : Oper} {t : Nat} {x y : Operand} {ys : List AC} {R' : List Res} (ho : o.op = .store t x y) (hd : o.dst = none) (hys : cellsOf (ev s y) = some ys) (hR : stv P R t (ev s x) ys = some R') (h : K s R') : EOp P N o s R K := by
  intro Q a w W hn
  obtain ⟨w', h1, h2, h3⟩ := stv_run hn.sep (hn.ev x) (hn.ev y) hys hR
  unfold Oper.wp
  have hr : (execOp a.eval o).run P w = .ok .skip w' := by
    simp only [execOp, ho, Sem.run_bind, h1, Result.andThen_ok, Sem.run_pure]
  rw [hr, Oper.upon_skip, hd]
  exact ⟨s, R', W, h, hn.next h2 h3, h2⟩

end
end Go.Proofs.Ytkaikajjhhnifaa.E
