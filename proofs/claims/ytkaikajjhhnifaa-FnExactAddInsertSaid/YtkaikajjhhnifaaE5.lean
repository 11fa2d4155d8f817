/- Words of the session's own, fifth part: addresses, lengths, cuts, stores, new variables. -/
import Derived.Test.YtkaikajjhhnifaaE4
namespace Go.Proofs.Ytkaikajjhhnifaa.E
open Go Go.RowKit
set_option linter.unusedVariables false
set_option linter.unusedSimpArgs false

/-! ### 1. Addresses -/
/-- Where field f of a struct type begins. -/
def fofs (P : Program) (t f : Nat) : Option Nat :=
  match P.underlying t with
  | some (.struct fs) => match fs[f]? with
    | some fd => match tyIs P fd.type with
      | some (_, n + 1) => some fd.offset
      | _ => none
    | none => none
  | _ => none

theorem fofs_parts {P : Program} {t f k : Nat} (h : fofs P t f = some k) : ∃ fs fd b n, P.underlying t = some (.struct fs) ∧ fs[f]? = some fd ∧ tyIs P fd.type = some (b, n + 1) ∧ fd.offset = k := by
  unfold fofs at h
  split at h
  · rename_i fs h1
    split at h
    · rename_i fd h2
      split at h
      · rename_i b n h3
        exact ⟨fs, fd, b, n, h1, h2, h3, Option.some.inj h⟩
      · cases h
    · cases h
  · cases h

def fav (k : Nat) : AV → Option AV
  | .c (.bp i off) => some (.c (.bp i (off + k)))
  | .c (.ep i j off tot) => some (.c (.ep i j (off + k) tot))
  | .c (.rp ts) => some (.c (.rp (ts.drop k)))
  | _ => none

theorem run_fieldAt {P : Program} {t f k b o : Nat} (h : fofs P t f = some k) (w : World) : (Instr.fieldAt t (.pointer (some ⟨b, o, none⟩)) f).run P w = .ok (.pointer (some ⟨b, o + k, none⟩)) w := by
  obtain ⟨fs, fd, q, n, h1, h2, h3, rfl⟩ := fofs_parts h
  simp only [Instr.fieldAt, underlying, Sem.run_bind, run_program, Result.andThen_ok, h1, Sem.run_pure, h2, Instr.sureAddr, fieldPlace, run_sizeOf_ h3, add_plain]
  simp

theorem fav_rel {R : List Res} {w : World} {W : Wit} {k : Nat} {x y : AV} {v : Value} (hs : Sep w W R) (hx : AVR W R w x v) (h : fav k x = some y) (hp : ∃ b o, v = .pointer (some ⟨b, o, none⟩)) :
    ∃ b o, v = .pointer (some ⟨b, o, none⟩) ∧ AVR W R w y (.pointer (some ⟨b, o + k, none⟩)) := by
  unfold fav at h
  split at h
  · rename_i i off
    obtain rfl := Option.some.inj h
    cases hx with
    | bp h1 h2 h3 _ =>
      obtain ⟨b, o, e⟩ := hp
      refine ⟨b, o, e, AR.bp rfl h2 (fun xs hr => ?_) .nil⟩
      obtain ⟨b', e1, e2⟩ := h3 xs hr
      rw [e] at e2
      obtain ⟨rfl, rfl⟩ : b = b' ∧ o = off := by cases e2; exact ⟨rfl, rfl⟩
      exact ⟨b, e1, rfl⟩
  · rename_i i j off tot
    obtain rfl := Option.some.inj h
    cases hx with
    | ep h1 h2 h3 _ =>
      obtain ⟨b, o, e⟩ := hp
      refine ⟨b, o, e, AR.ep rfl h2 (fun e' k' rows hr => ?_) .nil⟩
      obtain ⟨h4, h5⟩ := h3 e' k' rows hr
      refine ⟨h4, fun ht => ?_⟩
      obtain ⟨b', n, c, e1, e2⟩ := h5 ht
      rw [e] at e2
      obtain ⟨rfl, rfl⟩ : b = b' ∧ o = j * k' + off := by cases e2; exact ⟨rfl, rfl⟩
      exact ⟨b, n, c, e1, by rw [Nat.add_assoc]⟩
  · rename_i ts
    obtain rfl := Option.some.inj h
    cases hx with
    | rp b o inner h1 h2 h3 h4 _ =>
      refine ⟨b, o, h1, AR.rp b (o + k) (inner.drop k) rfl h2 (h3.drop k) (fun j u hj => ?_) .nil⟩
      rw [List.getElem?_drop] at hj
      have := h4 _ u hj
      rwa [← Nat.add_assoc] at this
  · cases h

/-- A pointer that is not known to have a block behind it is known to be one all the same where its resource stands. -/
def ptrOk (R : List Res) : AV → Bool
  | .c (.bp i _) => match R[i]? with | some (.box _) => true | _ => false
  | .c (.ep i _ _ tot) => match R[i]? with | some (.row _ _ rows) => rows.length == tot | _ => false
  | .c (.rp _) => true
  | _ => false

theorem ptrOk_ptr {R : List Res} {w : World} {W : Wit} {x : AV} {v : Value} (hx : AVR W R w x v) (h : ptrOk R x = true) : ∃ b o, v = .pointer (some ⟨b, o, none⟩) := by
  unfold ptrOk at h
  split at h
  · split at h
    · rename_i cs hr
      cases hx with
      | bp h1 h2 h3 _ => obtain ⟨b, _, e⟩ := h3 _ hr; exact ⟨b, _, e⟩
    · cases h
  · split at h
    · rename_i e k rows hr
      cases hx with
      | ep h1 h2 h3 _ => obtain ⟨b, _, _, _, e⟩ := (h3 _ _ _ hr).2 (by simpa using h); exact ⟨b, _, e⟩
    · cases h
  · cases hx with
    | rp b o inner h1 _ _ _ _ => exact ⟨b, o, h1⟩
  · cases h

/-- The address of an element. -/
def iav (P : Program) (R : List Res) (t : TypeId) (x : AV) (j : Int) : Option AV :=
  if 0 ≤ j then
    match P.underlying t, x with
    | some (.slice e), .c (.ro rows) => match rows[j.toNat]?, tyIs P e with
      | some row, some (_, k) => if row.length = k then some (.c (.rp row)) else none
      | _, _ => none
    | some (.slice e), .c (.sl i off len tot) => match R[i]?, tyIs P e with
      | some (.row _ k rows), some (_, k') => if rows.length = tot ∧ k = k' ∧ j.toNat < len then some (.c (.ep i (off + j.toNat) 0 tot)) else none
      | _, _ => none
    | some (.array n e), x => match tyIs P e with
      | some (_, k) => if j.toNat < n ∧ ptrOk R x = true then fav (j.toNat * k) x else none
      | none => none
    | _, _ => none
  else none

theorem iav_run {P : Program} {R : List Res} {w : World} {W : Wit} {t : TypeId} {x y : AV} {v : Value} {j : Int} (hs : Sep w W R) (hx : AVR W R w x v) (h : iav P R t x j = some y) :
    ∃ u, (∀ w', (Instr.indexAt t v (.int .i64 j)).run P w' = .ok u w') ∧ AVR W R w y u := by
  unfold iav at h
  split at h
  · rename_i hj
    split at h
    · rename_i e rows hu
      split at h
      · rename_i row bb k hrow hte
        split at h
        · rename_i hk
          obtain rfl := Option.some.inj h
          cases hx with
          | ro hro _ =>
            cases hro with
            | @sl rows a c inner ts vs k' g1 g2 g3 g4 g5 g6 =>
              have hlt : j.toNat < rows.length := by
                rcases Nat.lt_or_ge j.toNat rows.length with h' | h'
                · exact h'
                · rw [List.getElem?_eq_none h'] at hrow; cases hrow
              obtain ⟨b, o, rfl, hb, hc⟩ := g4 (by omega)
              have hkk : k' = k := by
                rw [← hk]; exact (g3 row (List.mem_of_getElem? hrow)).symm
              subst hkk
              refine ⟨.pointer (some ⟨b, o + j.toNat * k', none⟩), ?_, AR.rp b (o + j.toNat * k') ((inner.drop (j.toNat * k')).take k') rfl hb ?_ (fun q u hq => ?_) .nil⟩
              · intro w'
                simp only [Instr.indexAt, asIntOf, underlying, Sem.run_bind, run_program, Result.andThen_ok, hu, Sem.run_pure]
                simp only [hj, true_and, show j < (rows.length : Int) by omega, if_true, Sem.run_bind, run_sizeOf_ hte, Result.andThen_ok, add_plain]
                rfl
              · have := ((g5.drop (j.toNat * k')).take k')
                rwa [flatten_row g3 hrow] at this
              · rw [List.getElem?_take] at hq
                split at hq
                · rw [List.getElem?_drop] at hq
                  have := hc _ u hq
                  rwa [← Nat.add_assoc] at this
                · cases hq
        · cases h
      · cases h
    · rename_i e i off len tot hu
      split at h
      · rename_i e' k rows bb k' hR hte
        split at h
        · rename_i hcond
          obtain ⟨hlen, rfl, hlt⟩ := hcond
          obtain rfl := Option.some.inj h
          cases hx with
          | sl h1 h2 h3 _ =>
            obtain ⟨a, n, c, e1, e0, e2⟩ := (h3 _ _ _ hR).2 hlen
            obtain ⟨f1, f2, cells, G, f3, f4, f5, f6⟩ := hs.res i _ hR
            rcases f3.2 with ⟨g4, g5⟩ | ⟨g, cap, cur, g4, _⟩
            · rw [e1] at g4
              have : n = 0 := by cases g4; rfl
              omega
            · rw [e1] at g4
              obtain ⟨rfl, rfl, rfl⟩ : a = some ⟨g, 0, none⟩ ∧ n = rows.length ∧ c = cap := by cases g4; exact ⟨rfl, rfl, rfl⟩
              rcases e2 with e2 | ⟨rfl, _⟩
              · subst e2
                refine ⟨.pointer (some ⟨g, (off + j.toNat) * k, none⟩), ?_, AR.ep rfl h2 (fun e'' k'' rows'' hr'' => ?_) .nil⟩
                · intro w'
                  simp only [Instr.indexAt, asIntOf, underlying, Sem.run_bind, run_program, Result.andThen_ok, hu, Sem.run_pure, Option.map_some]
                  simp only [hj, true_and, show j < (len : Int) by omega, if_true, Sem.run_bind, run_sizeOf_ hte, Result.andThen_ok, add_plain, Nat.add_mul]
                  rfl
                · rw [hR] at hr''
                  obtain ⟨rfl, rfl, rfl⟩ : e' = e'' ∧ k = k'' ∧ rows = rows'' := by cases hr''; exact ⟨rfl, rfl, rfl⟩
                  exact ⟨by omega, fun _ => ⟨g, _, _, e1, by simp⟩⟩
              · omega
        · cases h
      · cases h
    · rename_i x n e hu
      split at h
      · rename_i bb k hte
        split at h
        · rename_i hcond
          obtain ⟨hlt, hp⟩ := hcond
          obtain ⟨b, o, e1, e2⟩ := fav_rel hs hx h (ptrOk_ptr hx hp)
          subst e1
          refine ⟨_, fun w' => ?_, e2⟩
          simp only [Instr.indexAt, asIntOf, underlying, Sem.run_bind, run_program, Result.andThen_ok, hu, Sem.run_pure, Instr.sureAddr]
          simp only [hj, true_and, show j < (n : Int) by omega, if_true, Sem.run_bind, run_sizeOf_ hte, Result.andThen_ok, add_plain]
          rfl
        · cases h
      · cases h
    · cases h
  · cases h

section
variable {P : Program} {N : Nat} {s : Slots} {R : List Res} {K : Slots → List Res → Prop}

theorem L_field {o : Oper} {t f k : Nat} {x : Operand} {y : AV} (ho : o.op = .fieldAddr t x f) (hk : fofs P t f = some k) (hp : ptrOk R (ev s x) = true) (hy : fav k (ev s x) = some y) : Pure P o s R y := fun N a w W hn => by
  obtain ⟨b, oo, e1, e2⟩ := fav_rel hn.sep (hn.ev x) hy (ptrOk_ptr (hn.ev x) hp)
  refine ⟨_, e2, fun w' => ?_⟩
  simp only [execOp, ho, e1, Sem.run_bind, run_fieldAt hk, Result.andThen_ok]
  rfl

theorem L_index {o : Oper} {t : Nat} {x ix : Operand} {j : Int} {y : AV} (ho : o.op = .indexAddr t x ix) (hj : ev s ix = .c (.sc (.int .i64 j))) (hy : iav P R t (ev s x) j = some y) : Pure P o s R y := fun N a w W hn => by
  obtain ⟨u, e1, e2⟩ := iav_run hn.sep (hn.ev x) hy
  refine ⟨u, e2, fun w' => ?_⟩
  simp only [execOp, ho, hn.sc hj, Sem.run_bind, e1, Result.andThen_ok]
  rfl

/-- How long is it? -/
def lav : AV → Option Nat
  | .c (.ro rows) => some rows.length
  | .c (.sl i _ len _) => some len
  | .c (.sc (.slice none 0 0)) => some 0
  | _ => none

def slOk (R : List Res) : AV → Bool
  | .c (.sl i off len tot) => match R[i]? with | some (.row _ _ rows) => rows.length == tot | _ => false
  | _ => true

/-- What is known of a slice's length. -/
theorem lav_val {w : World} {W : Wit} {x : AV} {v : Value} {n : Nat} (hs : Sep w W R) (hx : AVR W R w x v) (h : lav x = some n) (hok : slOk R x = true) :
    ∃ a c, v = .slice a n c := by
  unfold lav at h
  split at h
  · obtain rfl := Option.some.inj h
    cases hx with
    | ro hro _ => cases hro with | sl _ _ _ _ _ _ _ => exact ⟨_, _, rfl⟩
  · rename_i i off len tot
    obtain rfl := Option.some.inj h
    simp only [slOk] at hok
    split at hok
    · rename_i e k rows hr
      cases hx with
      | sl h1 h2 h3 _ =>
        obtain ⟨a, n, c, e1, e0, e2⟩ := (h3 _ _ _ hr).2 (by simpa using hok)
        rcases e2 with e2 | ⟨rfl, _, a', c', e2, _⟩
        · exact ⟨_, _, e2⟩
        · exact ⟨_, _, e2⟩
    · cases hok
  · obtain rfl := Option.some.inj h
    have := AR.sc_inv hx
    exact ⟨none, 0, this⟩
  · cases h

def isSlice (P : Program) (t : TypeId) : Option TypeId := match P.underlying t with | some (.slice e) => some e | _ => none

theorem isSlice_of {t e : TypeId} (h : isSlice P t = some e) : P.underlying t = some (.slice e) := by
  unfold isSlice at h
  split at h
  · rename_i e' h1; rw [h1, Option.some.inj h]
  · cases h

theorem L_len {o : Oper} {t e n : Nat} {x : Operand} (ho : o.op = .call { callee := .builtin .len, args := #[x], argTypes := #[t] }) (ht : isSlice P t = some e) (hx : lav (ev s x) = some n) (hok : slOk R (ev s x) = true) : Pure P o s R (.c (.sc (.int .i64 n))) := fun N a w W hn => by
  obtain ⟨b, c, e1⟩ := lav_val hn.sep (hn.ev x) hx hok
  refine ⟨.int .i64 n, AR.sc1 rfl, fun w' => ?_⟩
  have hu := isSlice_of ht
  simp [execOp, ho, resolve, invoke, builtin, Builtin.len_, e1, underlying, hu, goInt]

theorem L_len_string {o : Oper} {t : Nat} {x : Operand} {b : ByteArray} (ho : o.op = .call { callee := .builtin .len, args := #[x], argTypes := #[t] }) (ht : P.underlying t = some .string) (hx : ev s x = .c (.sc (.string b))) : Pure P o s R (.c (.sc (.int .i64 b.size))) := fun N a w W hn =>
  ⟨.int .i64 b.size, AR.sc1 rfl, fun w' => by simp [execOp, ho, resolve, invoke, builtin, Builtin.len_, hn.sc hx, underlying, ht, goInt]⟩

theorem L_min {o : Oper} {t t' : Nat} {x y : Operand} {i j : Int} (ho : o.op = .call { callee := .builtin .min, args := #[x, y], argTypes := #[t, t'] }) (hx : ev s x = .c (.sc (.int .i64 i))) (hy : ev s y = .c (.sc (.int .i64 j))) : Pure P o s R (.c (.sc (.int .i64 (if j < i then j else i)))) := fun N a w W hn =>
  ⟨.int .i64 (if j < i then j else i), AR.sc1 rfl, fun w' => by simp [execOp, ho, resolve, invoke, builtin, Builtin.min_, Builtin.min2, hn.sc hx, hn.sc hy]⟩

theorem L_max {o : Oper} {t t' : Nat} {x y : Operand} {i j : Int} (ho : o.op = .call { callee := .builtin .max, args := #[x, y], argTypes := #[t, t'] }) (hx : ev s x = .c (.sc (.int .i64 i))) (hy : ev s y = .c (.sc (.int .i64 j))) : Pure P o s R (.c (.sc (.int .i64 (if i < j then j else i)))) := fun N a w W hn =>
  ⟨.int .i64 (if i < j then j else i), AR.sc1 rfl, fun w' => by simp [execOp, ho, resolve, invoke, builtin, Builtin.max_, Builtin.max2, hn.sc hx, hn.sc hy]⟩

/-! ### 2. A part of several results; a closure -/
def xav (x : AV) (i : Nat) : Option AV := match x with
  | .tup xs => match xs[i]? with
    | some (true, cs) => some (.agg cs)
    | some (false, [c]) => some (.c c)
    | _ => none
  | _ => none

theorem L_extract {o : Oper} {i : Nat} {x : Operand} {y : AV} (ho : o.op = .extract x i) (hy : xav (ev s x) i = some y) : Pure P o s R y := fun N a w W hn => by
    have hx := hn.ev x
    unfold xav at hy
    split at hy
    · rename_i xs he
      rw [he] at hx
      obtain ⟨us, e1, e2, e3⟩ := hx
      split at hy
      · rename_i cs hi
        obtain rfl := Option.some.inj hy
        have hl : i < us.length := by
          rcases Nat.lt_or_ge i us.length with h' | h'
          · exact h'
          · rw [List.getElem?_eq_none (by omega)] at hi; cases hi
        obtain ⟨vs, f1, f2⟩ := e3 i _ _ hi (List.getElem?_eq_getElem hl)
        simp only [if_true] at f1
        exact ⟨us[i], ⟨vs, f1, f2⟩, fun w' => by simp [execOp, ho, e1, Instr.extract, hl]⟩
      · rename_i c hi
        obtain rfl := Option.some.inj hy
        have hl : i < us.length := by
          rcases Nat.lt_or_ge i us.length with h' | h'
          · exact h'
          · rw [List.getElem?_eq_none (by omega)] at hi; cases hi
        obtain ⟨vs, f1, f2⟩ := e3 i _ _ hi (List.getElem?_eq_getElem hl)
        simp only [Bool.false_eq_true, if_false] at f1
        subst f1
        exact ⟨us[i], f2, fun w' => by simp [execOp, ho, e1, Instr.extract, hl]⟩
      · cases hy
    · cases hy

end
end Go.Proofs.Ytkaikajjhhnifaa.E
