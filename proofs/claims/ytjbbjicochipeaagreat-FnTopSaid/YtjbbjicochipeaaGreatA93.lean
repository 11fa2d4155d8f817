/- Walks through functions, by program out of the session's annotations. -/
import Derived.Test.YtjbbjicochipeaaGreatA91
import Derived.Test.YtjbbjicochipeaaGreatA42
namespace Go.Proofs.YtjbbjicochipeaaGreat.E
open Go Go.RowKit Go.Proofs
set_option linter.unusedVariables false
set_option linter.unusedSimpArgs false

theorem ty_99:tyIs Tryz.prog 99=some (false,1):=by kernel_rfl

end Go.Proofs.YtjbbjicochipeaaGreat.E
