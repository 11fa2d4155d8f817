/- Words of the session's own, fifty-first part: something forgotten. -/
import Derived.Test.YtlodlnbhjghjoaaGreatE50
namespace Go.Proofs.YtlodlnbhjghjoaaGreat.E
open Go Go.RowKit
set_option linter.unusedVariables false
theorem X_any {N : Nat} {s : Slots} {R : List Res} (t : Nat) {x : AC} (ht : get s t = .c x) : ShiftX N s R (fun _ : Unit => (t, .c .any) :: s) (fun _ => R) := by
 intro a w W hn
 have hv:=hn.val t
 rw [ht] at hv
 have hv':AR W R w [x] [a.tmps.getD t undef]:=hv
 exact⟨(),W,hn.retell (y:=.c .any) (AR.any (hv'.one _ (List.mem_cons_self ..)) .nil),.refl ..⟩
def vrow (vs:List Value):List (List T):=vs.map fun v=>[.sc v]
theorem vrow_len (vs:List Value):(vrow vs).length=vs.length:=by simp [vrow]
theorem vrow_app (vs us:List Value):vrow vs++vrow us=vrow (vs++us):=by simp [vrow]
theorem vrow_lenApp (vs us:List Value):vs.length+(vrow us).length=(vs++us).length:=by simp [vrow]
theorem vrow_row (vs : List Value) : ∀ r ∈ vrow vs, r.length = 1 ∧ r.all isSc = true := by
 intro r hr
 obtain⟨v,_,rfl⟩:=List.mem_map.1 hr
 exact⟨rfl,rfl⟩
end Go.Proofs.YtlodlnbhjghjoaaGreat.E
