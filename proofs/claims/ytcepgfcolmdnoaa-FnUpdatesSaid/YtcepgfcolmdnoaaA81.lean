/- Walks through functions, by program out of the session's annotations. -/
import Derived.Test.YtcepgfcolmdnoaaA151
import Derived.Test.YtcepgfcolmdnoaaA80
namespace Go.Proofs.Ytcepgfcolmdnoaa.E
open Go Go.RowKit Go.Proofs
set_option linter.unusedVariables false
set_option linter.unusedSimpArgs false

theorem c_impl_AddDelete (c : Crk) (p : Pnd) (x : Int) (hb : c.rows.length ≤ 1048576 ∧ p.ins.length ≤ 1048576 ∧ p.del.length ≤ 1048576) : EFn Try.prog 33 [.agg (crkC c), .agg (pndC p), .c (.sc (.int .i64 x))] [] (fun r S => r = .tup [(true, pndO 0 (delR c p x)), (false, [.sc (.bool (delOk c p x))])] ∧ S = pndR 3 60 (delR c p x)) := by
 cases hf:delOk c p x
 ·have := c_impl_AddDelete_n c p x hb hf
  rwa [hf] at this
 ·have := c_impl_AddDelete_y c p x hb hf
  rwa [hf] at this
end Go.Proofs.Ytcepgfcolmdnoaa.E
