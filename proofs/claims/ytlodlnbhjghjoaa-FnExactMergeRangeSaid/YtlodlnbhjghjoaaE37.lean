/- Words of the session's own, thirty-seventh part: a call that turns some of the caller's rows, where all else in a drawn region is done. -/
import Derived.Test.YtlodlnbhjghjoaaF3
namespace Go.Proofs.Ytlodlnbhjghjoaa.E
open Go Go.RowKit
set_option linter.unusedVariables false
set_option linter.unusedSimpArgs false

end Go.Proofs.Ytlodlnbhjghjoaa.E
