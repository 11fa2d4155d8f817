/- slices.Insert at pivots, where elements stand behind: as a contract over resources. -/
import Derived.Test.YtlodlnbhjghjoaaRI
import Derived.Test.YtlodlnbhjghjoaaF3
namespace Go.Proofs.Ytlodlnbhjghjoaa.E
open Go Go.RowKit Go.Lib
set_option linter.unusedVariables false
set_option linter.unusedSimpArgs false

end Go.Proofs.Ytlodlnbhjghjoaa.E
