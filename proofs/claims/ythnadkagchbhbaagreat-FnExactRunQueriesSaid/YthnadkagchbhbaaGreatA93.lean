/- Walks through functions, by program out of the session's annotations. -/
import Derived.Test.YthnadkagchbhbaaGreatA91
import Derived.Test.YthnadkagchbhbaaGreatA42
namespace Go.Proofs.YthnadkagchbhbaaGreat.E
open Go Go.RowKit Go.Proofs
set_option linter.unusedVariables false
set_option linter.unusedSimpArgs false

theorem ty_73 : tyIs Tryz.prog 73 = some (false, 1) := by kernel_rfl

end Go.Proofs.YthnadkagchbhbaaGreat.E
