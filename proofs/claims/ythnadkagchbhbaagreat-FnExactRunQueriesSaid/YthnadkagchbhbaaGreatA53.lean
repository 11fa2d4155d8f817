/- Walks through functions, by program out of the session's annotations. -/
import Derived.Test.YthnadkagchbhbaaGreatA52
import Derived.Test.YthnadkagchbhbaaGreatA11
namespace Go.Proofs.YthnadkagchbhbaaGreat.E
open Go Go.RowKit Go.Proofs
set_option linter.unusedVariables false
set_option linter.unusedSimpArgs false

end Go.Proofs.YthnadkagchbhbaaGreat.E
