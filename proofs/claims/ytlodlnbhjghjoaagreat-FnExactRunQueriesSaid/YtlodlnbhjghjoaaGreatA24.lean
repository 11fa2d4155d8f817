/- Walks through functions, by program out of the session's annotations. -/
import Derived.Test.YtlodlnbhjghjoaaGreatA11
import Derived.Test.YtlodlnbhjghjoaaGreatA06
import Derived.Test.YtlodlnbhjghjoaaGreatA09
namespace Go.Proofs.YtlodlnbhjghjoaaGreat.E
open Go Go.RowKit Go.Proofs
set_option linter.unusedVariables false
set_option linter.unusedSimpArgs false

structure Pnd where
 ins:List (Int × Int)
 del:List Int
 deriving DecidableEq
end Go.Proofs.YtlodlnbhjghjoaaGreat.E
