/- Walks through functions, by program out of the session's annotations. -/
import Derived.Test.YtlodlnbhjghjoaaGreatA156
import Derived.Test.YtlodlnbhjghjoaaGreatA152
namespace Go.Proofs.YtlodlnbhjghjoaaGreat.E
open Go Go.RowKit Go.Proofs
set_option linter.unusedVariables false
set_option linter.unusedSimpArgs false

def allR:Int × Int:=(-1000,1000)
end Go.Proofs.YtlodlnbhjghjoaaGreat.E
