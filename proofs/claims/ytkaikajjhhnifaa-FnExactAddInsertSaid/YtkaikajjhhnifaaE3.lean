/- Words of the session's own, third part: a region's operations over slots and resources, and calls. -/
import Derived.Test.YtkaikajjhhnifaaE2
import Derived.Orders
namespace Go.Proofs.Ytkaikajjhhnifaa.E
open Go Go.RowKit
set_option linter.unusedVariables false
set_option linter.unusedSimpArgs false

/-! ### 1. Operands -/
def cv (v : Value) : AV := match v with
  | .agg _ | .tuple _ => .any
  | v => .c (.sc v)

def ev (s : Slots) : Operand → AV
  | .tmp t => get s t
  | .const v => cv v
  | .func f => .c (.fn f [])
  | .global _ => .any

theorem AR.sc1 {W : Wit} {R : List Res} {w : World} {v : Value} (h : v.oneCell' = true) : AR W R w [.sc v] [v] := .sc h .nil

theorem cv_rel (W : Wit) (R : List Res) (w : World) (v : Value) : AVR W R w (cv v) v := by
  unfold cv
  split
  · exact AVR.any ..
  · exact AVR.any ..
  · rename_i h1 h2
    exact AR.sc1 (by cases v <;> first | rfl | exact absurd rfl (h1 _) | exact absurd rfl (h2 _))

theorem Now.ev {N : Nat} {s : Slots} {R : List Res} {a : Act} {w : World} {W : Wit} (h : Now N s R a w W) (x : Operand) : AVR W R w (ev s x) (a.eval x) := by
  cases x with
  | tmp t => exact h.val t
  | const v => exact cv_rel ..
  | global g => exact AVR.any ..
  | func f => exact AR.fn (xs := []) .nil .nil

theorem Now.put {N : Nat} {s : Slots} {R : List Res} {a : Act} {w : World} {W : Wit} (h : Now N s R a w W) {d : Nat} (hd : d < N) {y : AV} {v : Value} (hv : AVR W R w y v) : Now N ((d, y) :: s) R (a.put (some d) v) w W := by
  refine ⟨by simp [Act.put, h.size], h.defers, fun t => ?_, h.sep⟩
  simp only [E.get, Act.put]
  by_cases e : d = t
  · subst e
    rw [if_pos rfl]
    simpa [Array.getD_eq_getD_getElem?, h.size, hd] using hv
  · rw [if_neg e]
    have := h.val t
    simpa [Array.getD_eq_getD_getElem?, Array.getElem?_setIfInBounds, e] using this

theorem Now.next {N : Nat} {s : Slots} {R R' : List Res} {a : Act} {w w' : World} {W W' : Wit} (h : Now N s R a w W) (ht : Trans w W R w' W' R') (hs : Sep w' W' R') : Now N s R' a w' W' :=
  ⟨h.size, h.defers, fun t => (h.val t).next ht, hs⟩

/-! ### 2. Operations -/
def EOp (P : Program) (N : Nat) (o : Oper) (s : Slots) (R : List Res) (K : Slots → List Res → Prop) : Prop :=
  ∀ Q a w W, Now N s R a w W → o.wp P a w (fun a' w' => Reach N w W R K a' w') Q

def EOps (P : Program) (N : Nat) (ops : Array Oper) (L : List Nat) (s : Slots) (R : List Res) (K : Slots → List Res → Prop) : Prop :=
  ∀ Q a w W, Now N s R a w W → (∀ a' w', Reach N w W R K a' w' → Q .normal a' w') → wpOps P ops Q L a w

/-- Is an operation carried out? -/
def want (ops : Array Oper) (o : Oper) (s : Slots) : Option Bool :=
  match o.guard with
  | none => some true
  | some (j, b) => match (ops[j]?).bind (·.dst) with
    | some d => match get s d with
      | .c (.sc (.bool x)) => some (x == b)
      | .tup [] => some false
      | _ => none
    | none => none

section
variable {P : Program} {N : Nat} {ops : Array Oper} {s : Slots} {R : List Res} {K : Slots → List Res → Prop}

theorem want_real {o : Oper} {b : Bool} {a : Act} {w : World} {W : Wit} (hn : Now N s R a w W) (h : want ops o s = some b) : Region.wanted o (yielded ops a.tmps) = b := by
  unfold want at h
  unfold Region.wanted
  cases hg : o.guard with
  | none => rw [hg] at h; simpa using h
  | some jb =>
    obtain ⟨j, c⟩ := jb
    rw [hg] at h
    simp only at h ⊢
    cases hd : (ops[j]?).bind (·.dst) with
    | none => rw [hd] at h; cases h
    | some d =>
      rw [hd] at h
      simp only at h
      have hv := hn.val d
      split at h
      · rename_i x hx
        rw [hx] at hv
        have e := AR.sc_inv hv
        have hy : yielded ops a.tmps j = some x := by
          unfold yielded
          rw [hd]
          simp only [Option.bind_some]
          cases ht : a.tmps[d]? with
          | none => simp [Array.getD_eq_getD_getElem?, ht, undef] at e
          | some u =>
            simp [Array.getD_eq_getD_getElem?, ht] at e
            subst e
            rfl
        rw [hy]
        have : (x == c) = b := by simpa using h
        rw [← this]
        rfl
      · rename_i hx
        rw [hx] at hv
        obtain ⟨us, e, hl, _⟩ := hv
        obtain rfl : us = [] := List.length_eq_zero_iff.1 hl
        have hy : yielded ops a.tmps j = none := by
          unfold yielded
          rw [hd]
          simp only [Option.bind_some]
          cases ht : a.tmps[d]? with
          | none => rfl
          | some u =>
            simp [Array.getD_eq_getD_getElem?, ht] at e
            subst e
            rfl
        rw [hy]
        obtain rfl : false = b := Option.some.inj h
        rfl
      · cases h

theorem EOps_nil (h : K s R) : EOps P N ops [] s R K := fun Q a w W hn hq => hq a w ⟨s, R, W, h, hn, .refl ..⟩

theorem EOps_go {i : Nat} {rest : List Nat} {o : Oper} (ho : ops[i]? = some o) (hw : want ops o s = some true) (h : EOp P N o s R (fun s' R' => EOps P N ops rest s' R' K)) : EOps P N ops (i :: rest) s R K := by
  intro Q a w W hn hq
  simp only [wpOps, ho, want_real hn hw, if_true]
  refine .inl (Oper.wp_mono (fun a1 w1 hr => ?_) (h Q a w W hn))
  obtain ⟨s1, R1, W1, h1, h2, h3⟩ := hr
  exact h1 Q a1 w1 W1 h2 fun a' w' hr' => hq a' w' (hr'.after h3)

def fill (s : Slots) : Option Tmp → Slots
  | some d => (d, .tup []) :: s
  | none => s

theorem AVR.undef (W : Wit) (R : List Res) (w : World) : AVR W R w (.tup []) undef := ⟨[], rfl, rfl, fun i x u h => by simp at h⟩

theorem EOps_skip {i : Nat} {rest : List Nat} {o : Oper} (ho : ops[i]? = some o) (hw : want ops o s = some false) (hd : ∀ d, o.dst = some d → d < N) (h : EOps P N ops rest (fill s o.dst) R K) : EOps P N ops (i :: rest) s R K := by
  intro Q a w W hn hq
  simp only [wpOps, ho, want_real hn hw, if_false, Bool.false_eq_true]
  refine h Q (a.put o.dst undef) w W ?_ hq
  cases hdd : o.dst with
  | none => exact hn
  | some d => exact hn.put (hd d hdd) (AVR.undef ..)

theorem E_region {id : Nat} {Q : Exit → Slots → List Res → Prop} (h : EOps P N ops (List.range ops.size) s R (Q .normal)) : ECode P N (.region id ops false) s R Q :=
  fun a w W hn => wp_region (h _ a w W hn fun a' w' hr => hr)

/-- An operation that yields a value and leaves the world alone, now and while nothing that stands is turned. -/
def Light (P : Program) (o : Oper) (s : Slots) (R : List Res) (y : AV) : Prop :=
  ∀ N a w W, Now N s R a w W → ∃ v, AVR W R w y v ∧ ∀ w', Below w.heap.size w w' → (execOp a.eval o).run P w' = .ok (.value v) w'

/-- The same, whatever the world. -/
def Pure (P : Program) (o : Oper) (s : Slots) (R : List Res) (y : AV) : Prop :=
  ∀ N a w W, Now N s R a w W → ∃ v, AVR W R w y v ∧ ∀ w', (execOp a.eval o).run P w' = .ok (.value v) w'

theorem Pure.light {o : Oper} {y : AV} (h : Pure P o s R y) : Light P o s R y := fun N a w W hn => by
  obtain ⟨v, h1, h2⟩ := h N a w W hn
  exact ⟨v, h1, fun w' _ => h2 w'⟩

theorem EOp_light {o : Oper} {d : Nat} {y : AV} (hd : o.dst = some d) (hN : d < N) (hv : Light P o s R y) (h : K ((d, y) :: s) R) : EOp P N o s R K := by
  intro Q a w W hn
  obtain ⟨v, hy, hr⟩ := hv N a w W hn
  unfold Oper.wp
  rw [hr w (Below.refl ..), Oper.upon_value, hd]
  exact ⟨_, R, W, h, hn.put hN hy, .refl ..⟩

theorem L_move {o : Oper} {x : Operand} (ho : o.op = .move x) : Pure P o s R (ev s x) := fun N a w W hn => ⟨a.eval x, hn.ev x, fun w' => by simp [execOp, ho]⟩
theorem L_assign {o : Oper} {x : Operand} (ho : o.op = .assign x) : Pure P o s R (ev s x) := fun N a w W hn => ⟨a.eval x, hn.ev x, fun w' => by simp [execOp, ho]⟩

theorem Now.sc {a : Act} {w : World} {W : Wit} (hn : Now N s R a w W) {x : Operand} {v : Value} (hx : E.ev s x = .c (.sc v)) : a.eval x = v := by
  have := hn.ev x
  rw [hx] at this
  exact AR.sc_inv this

theorem L_pick {o : Oper} {c x y : Operand} {b : Bool} (ho : o.op = .pick c x y) (hc : ev s c = .c (.sc (.bool b))) : Pure P o s R (if b then ev s x else ev s y) := fun N a w W hn =>
  ⟨if b then a.eval x else a.eval y, by cases b <;> simp [hn.ev], fun w' => by simp [execOp, ho, hn.sc hc, asBool]⟩

theorem L_not {o : Oper} {t : Nat} {x : Operand} {b : Bool} (ho : o.op = .unOp .not t x) (hc : ev s x = .c (.sc (.bool b))) : Pure P o s R (.c (.sc (.bool !b))) := fun N a w W hn =>
  ⟨.bool !b, AR.sc1 (v := .bool !b) rfl, fun w' => by simp [execOp, ho, hn.sc hc, Op.unary]⟩

/-- What a binary operation on scalars comes to. -/
def binV : BinOp → Value → Value → Option Value
  | .add, .int .i64 x, .int .i64 y => some (.int .i64 (IntKind.i64.wrap (x + y)))
  | .sub, .int .i64 x, .int .i64 y => some (.int .i64 (IntKind.i64.wrap (x - y)))
  | .mul, .int .i64 x, .int .i64 y => some (.int .i64 (IntKind.i64.wrap (x * y)))
  | .lss, .int .i64 x, .int .i64 y => some (.bool (x < y))
  | .leq, .int .i64 x, .int .i64 y => some (.bool (x ≤ y))
  | .gtr, .int .i64 x, .int .i64 y => some (.bool (x > y))
  | .geq, .int .i64 x, .int .i64 y => some (.bool (x ≥ y))
  | .eql, .int .i64 x, .int .i64 y => some (.bool (x == y))
  | .neq, .int .i64 x, .int .i64 y => some (.bool (x != y))
  | _, _, _ => none

theorem binV_run {op : BinOp} {x y v : Value} (h : binV op x y = some v) (P : Program) (t : TypeId) (w : World) (p q : Operand) : (do eqGuard op t p q x y; binOp op t x y).run P w = .ok v w := by
  unfold binV at h
  split at h <;> first | (cases h; done) | (obtain rfl := Option.some.inj h; simp [eqGuard, binOp, Op.intArith, Op.intCmp])

theorem L_bin {o : Oper} {t t' : Nat} {op : BinOp} {x y : Operand} {u u' v : Value} (ho : o.op = .binOp op t x y t') (hx : ev s x = .c (.sc u)) (hy : ev s y = .c (.sc u')) (hv : binV op u u' = some v) : Pure P o s R (.c (.sc v)) := fun N a w W hn =>
  ⟨v, AR.sc1 (v := v) (by unfold binV at hv; split at hv <;> first | (cases hv; done) | (obtain rfl := Option.some.inj hv; rfl)), fun w' => by
    have := binV_run hv P t w' x y
    simp only [execOp, ho, hn.sc hx, hn.sc hy]
    simp only [Sem.run_bind] at this ⊢
    rw [this]; rfl⟩

end
end Go.Proofs.Ytkaikajjhhnifaa.E
