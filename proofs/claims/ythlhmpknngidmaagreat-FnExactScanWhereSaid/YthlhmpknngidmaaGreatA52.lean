/- Walks through functions, by program out of the session's annotations. -/
import Derived.Test.YthlhmpknngidmaaGreatA42
import Derived.Test.YthlhmpknngidmaaGreatA03
import Derived.Test.YthlhmpknngidmaaGreatF2
namespace Go.Proofs.YthlhmpknngidmaaGreat.E
open Go Go.RowKit Go.Proofs
set_option linter.unusedVariables false
set_option linter.unusedSimpArgs false

theorem crackC_vals {c : Crk} {v : Int} : (crackC c v).1.vals.length = c.vals.length := by
 cases h:isPv c.piv v
 ·rw [crackC, if_neg (by simp [h])]
  exact swps_len _ _
 ·rw [crackC,if_pos h]
end Go.Proofs.YthlhmpknngidmaaGreat.E
