/- Words of the session's own, thirty-eighth part: division. -/
import Derived.Test.YtlodlnbhjghjoaaGreatF3
namespace Go.Proofs.YtlodlnbhjghjoaaGreat.E
open Go Go.RowKit
set_option linter.unusedVariables false
set_option linter.unusedSimpArgs false

theorem L_quo {P : Program} {s : Slots} {R : List Res} {o : Oper} {t t' : Nat} {x y : Operand} {u v : Int} (ho : o.op = .binOp .quo t x y t') (hx : E.ev s x = .c (.sc (.int .i64 u))) (hy : E.ev s y = .c (.sc (.int .i64 v))) (hv : v ≠ 0) : Pure P o s R (.c (.sc (.int .i64 (IntKind.i64.wrap (Int.tdiv u v))))) := fun N a w W hn =>
  ⟨.int .i64 (IntKind.i64.wrap (Int.tdiv u v)), AR.sc1 (v := .int .i64 (IntKind.i64.wrap (Int.tdiv u v))) rfl, fun w' => by
    have hr : (do eqGuard .quo t x y (.int .i64 u) (.int .i64 v); binOp .quo t (.int .i64 u) (.int .i64 v)).run P w' = .ok (.int .i64 (IntKind.i64.wrap (Int.tdiv u v))) w' := by
      simp [eqGuard, binOp, Op.intDiv, hv]
    simp only [execOp, ho, hn.sc hx, hn.sc hy]
    simp only [Sem.run_bind] at hr ⊢
    rw [hr]; rfl⟩

/-- .. half of what is not negative. -/
theorem L_half {P : Program} {s : Slots} {R : List Res} {o : Oper} {t t' : Nat} {x y : Operand} {u : Int} (n : Nat) (ho : o.op = .binOp .quo t x y t') (hx : E.ev s x = .c (.sc (.int .i64 u))) (hy : E.ev s y = .c (.sc (.int .i64 2))) (hu : u = n) (hn : n ≤ 9223372036854775807) : Pure P o s R (.c (.sc (.int .i64 ((n / 2 : Nat) : Int)))) := by
  have h := L_quo (P := P) (R := R) ho hx hy (by decide)
  have e : IntKind.i64.wrap (Int.tdiv u 2) = ((n / 2 : Nat) : Int) := by
    subst hu
    have : Int.tdiv (n : Int) 2 = ((n / 2 : Nat) : Int) := rfl
    rw [this, IntKind.wrap_i64]
    omega
  rw [e] at h
  exact h
end Go.Proofs.YtlodlnbhjghjoaaGreat.E
