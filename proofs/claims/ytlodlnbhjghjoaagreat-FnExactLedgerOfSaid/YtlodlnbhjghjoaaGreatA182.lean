/- Walks through functions, by program out of the session's annotations. -/
import Derived.Test.YtlodlnbhjghjoaaGreatA110
import Derived.Test.YtlodlnbhjghjoaaGreatA180
namespace Go.Proofs.YtlodlnbhjghjoaaGreat.E
open Go Go.RowKit Go.Proofs
set_option linter.unusedVariables false
set_option linter.unusedSimpArgs false

theorem ty_125:tyIs Tryz.prog 125=some (false,1):=by kernel_rfl

end Go.Proofs.YtlodlnbhjghjoaaGreat.E
