/- Walks through functions, by program out of the session's annotations. -/
import Derived.Test.YtjbbjicochipeaaGreatA11
import Derived.Test.YtjbbjicochipeaaGreatA05
import Derived.Test.YtjbbjicochipeaaGreatA08
namespace Go.Proofs.YtjbbjicochipeaaGreat.E
open Go Go.RowKit Go.Proofs
set_option linter.unusedVariables false
set_option linter.unusedSimpArgs false

structure Pnd where
 ins:List (Int × Int)
 del:List Int
 deriving DecidableEq
end Go.Proofs.YtjbbjicochipeaaGreat.E
