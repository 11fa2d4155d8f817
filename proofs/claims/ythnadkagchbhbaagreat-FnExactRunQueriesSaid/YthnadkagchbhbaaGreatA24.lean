/- Walks through functions, by program out of the session's annotations. -/
import Derived.Test.YthnadkagchbhbaaGreatA11
import Derived.Test.YthnadkagchbhbaaGreatA20
namespace Go.Proofs.YthnadkagchbhbaaGreat.E
open Go Go.RowKit Go.Proofs
set_option linter.unusedVariables false
set_option linter.unusedSimpArgs false

structure Pnd where
 ins : List (Int × Int)
 del : List Int
 deriving DecidableEq
end Go.Proofs.YthnadkagchbhbaaGreat.E
