/- Walks through functions, by program out of the session's annotations. -/
import Derived.Test.YtcepgfcolmdnoaaA97
import Derived.Test.YtcepgfcolmdnoaaA52
import Derived.Test.YtcepgfcolmdnoaaA100
import Derived.Test.YtcepgfcolmdnoaaF4
namespace Go.Proofs.Ytcepgfcolmdnoaa.E
open Go Go.RowKit Go.Proofs
set_option linter.unusedVariables false
set_option linter.unusedSimpArgs false

set_option maxRecDepth 20000 in
set_option maxHeartbeats 2000000 in
theorem c_laws_big (l : List Int) : EFn Try.prog 10 [.c (.ro (bytes l))] [] (fun r S => r = .c (.sc (.bool (decide ((l.length : Int) > 1048576)))) ∧ S = []) := by
 refine E_fn Try.func10 rfl (Nat.le_of_ble_eq_true rfl) ?_
 refine E_seq ?_
 refine E_region' (L := [0]) rfl ?_
 refine xas ?_
 refine EOps_nil ?_
 refine E_seq ?_
 refine E_region' (L := [0, 1, 2, 3]) rfl ?_
 refine xmv ?_
 refine x_pure rfl rfl rfl (l_len rfl sl_22) ?_
 refine x_pure rfl rfl rfl (L_bin rfl rfl rfl rfl) ?_
 refine xas ?_
 refine EOps_nil ?_
 refine E_ret ?_
 refine ⟨_, [], rfl, rfl, ?_, rfl⟩
 rw [← bytes_len l]; rfl

end Go.Proofs.Ytcepgfcolmdnoaa.E
