/- Walks through functions, by program out of the session's annotations. -/
import Derived.Test.YtlodlnbhjghjoaaGreatAT
import Derived.Test.YtlodlnbhjghjoaaGreatA24
namespace Go.Proofs.YtlodlnbhjghjoaaGreat.E
open Go Go.RowKit Go.Proofs
set_option linter.unusedVariables false
set_option linter.unusedSimpArgs false

def tyPr : Ty := .st (.cons .int (.cons .int .nil))
def prOf (y : tyPr.den) : Int × Int := (y.1, y.2.1)
theorem pr_av (y : tyPr.den) : tyPr.av y = .agg [.sc (.int .i64 (prOf y).1), .sc (.int .i64 (prOf y).2)] := rfl
end Go.Proofs.YtlodlnbhjghjoaaGreat.E
