/- Walks through functions, by program out of the session's annotations. -/
import Derived.Test.YtlodlnbhjghjoaaGreatA91
import Derived.Test.YtlodlnbhjghjoaaGreatA42
namespace Go.Proofs.YtlodlnbhjghjoaaGreat.E
open Go Go.RowKit Go.Proofs
set_option linter.unusedVariables false
set_option linter.unusedSimpArgs false

theorem ty_135:tyIs Tryz.prog 135=some (false,1):=by kernel_rfl

end Go.Proofs.YtlodlnbhjghjoaaGreat.E
