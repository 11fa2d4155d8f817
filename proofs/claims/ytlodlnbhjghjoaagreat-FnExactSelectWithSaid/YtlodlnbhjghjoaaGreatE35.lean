/- Words of the session's own, thirty-fifth part: a pointer that is seen not to be nil. -/
import Derived.Test.YtlodlnbhjghjoaaGreatF3
namespace Go.Proofs.YtlodlnbhjghjoaaGreat.E
open Go Go.RowKit
set_option linter.unusedVariables false
set_option linter.unusedSimpArgs false

theorem L_nilCheck {P : Program} {s : Slots} {R : List Res} {o : Oper} {x : Operand} {i off : Nat} {xs : List AC} (ho : o.op = .nilCheck x) (hx : E.ev s x = .c (.bp i off)) (hR : R[i]? = some (.box xs)) : Pure P o s R (.c (.bp i off)) := fun N a w W hn => by
  have hv := hn.ev x
  rw [hx] at hv
  have hv' : AR W R w [.bp i off] [a.eval x] := hv
  refine ⟨a.eval x, hv, fun w' => ?_⟩
  cases hv' with
  | bp h1 h2 h3 _ =>
    obtain ⟨b, k1, k2⟩ := h3 _ hR
    simp [execOp, ho, k2]
end Go.Proofs.YtlodlnbhjghjoaaGreat.E
