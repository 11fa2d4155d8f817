/- Walks through functions, by program out of the session's annotations. -/
import Derived.Test.YthlhmpknngidmaaA06
import Derived.Test.YthlhmpknngidmaaA03
namespace Go.Proofs.Ythlhmpknngidmaa.E
open Go Go.RowKit Go.Proofs
set_option linter.unusedVariables false
set_option linter.unusedSimpArgs false

end Go.Proofs.Ythlhmpknngidmaa.E
