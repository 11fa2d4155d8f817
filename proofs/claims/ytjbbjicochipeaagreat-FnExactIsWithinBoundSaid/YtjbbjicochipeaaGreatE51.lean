/- Words of the session's own, fifty-first part: something forgotten. -/
import Derived.Test.YtjbbjicochipeaaGreatE50
namespace Go.Proofs.YtjbbjicochipeaaGreat.E
open Go Go.RowKit
set_option linter.unusedVariables false
def vrow (vs:List Value):List (List T):=vs.map fun v=>[.sc v]
theorem vrow_len (vs:List Value):(vrow vs).length=vs.length:=by simp [vrow]
theorem vrow_row (vs : List Value) : ∀ r ∈ vrow vs, r.length = 1 ∧ r.all isSc = true := by
 intro r hr
 obtain⟨v,_,rfl⟩:=List.mem_map.1 hr
 exact⟨rfl,rfl⟩
end Go.Proofs.YtjbbjicochipeaaGreat.E
