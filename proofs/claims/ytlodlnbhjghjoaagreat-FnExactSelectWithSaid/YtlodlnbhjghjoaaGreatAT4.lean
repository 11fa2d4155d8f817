/- Walks through functions, by program out of the session's annotations. -/
import Derived.Test.YtlodlnbhjghjoaaGreatAT2
import Derived.Test.YtlodlnbhjghjoaaGreatA90
namespace Go.Proofs.YtlodlnbhjghjoaaGreat.E
open Go Go.RowKit Go.Proofs
set_option linter.unusedVariables false
set_option linter.unusedSimpArgs false

def tySet : Ty := .st (.cons .int (.cons .int (.cons .int .nil)))
def setOf (y : tySet.den) : Sett := ⟨y.1, y.2.1, y.2.2.1⟩
theorem set_av (y : tySet.den) : tySet.av y = .agg (setC (setOf y)) := rfl

end Go.Proofs.YtlodlnbhjghjoaaGreat.E
