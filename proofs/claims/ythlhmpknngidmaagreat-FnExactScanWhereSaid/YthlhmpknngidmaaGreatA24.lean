/- Walks through functions, by program out of the session's annotations. -/
import Derived.Test.YthlhmpknngidmaaGreatA11
import Derived.Test.YthlhmpknngidmaaGreatA06
import Derived.Test.YthlhmpknngidmaaGreatA09
namespace Go.Proofs.YthlhmpknngidmaaGreat.E
open Go Go.RowKit Go.Proofs
set_option linter.unusedVariables false
set_option linter.unusedSimpArgs false

structure Pnd where
 ins:List (Int × Int)
 del:List Int
 deriving DecidableEq
end Go.Proofs.YthlhmpknngidmaaGreat.E
