/- Walks through functions, by program out of the session's annotations. -/
import Derived.Test.YtcepgfcolmdnoaaA42
namespace Go.Proofs.Ytcepgfcolmdnoaa.E
open Go Go.RowKit Go.Proofs
set_option linter.unusedVariables false
set_option linter.unusedSimpArgs false

def inR (r:Int × Int) (v:Int):Bool:=isRng r && decide (r.1≤v) && decide (v<r.2)

end Go.Proofs.Ytcepgfcolmdnoaa.E
