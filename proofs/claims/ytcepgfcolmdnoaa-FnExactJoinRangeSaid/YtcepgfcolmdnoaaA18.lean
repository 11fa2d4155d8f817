/- Walks through functions, by program out of the session's annotations. -/
import Derived.Test.YtcepgfcolmdnoaaF2
namespace Go.Proofs.Ytcepgfcolmdnoaa.E
open Go Go.RowKit Go.Proofs
set_option linter.unusedVariables false
set_option linter.unusedSimpArgs false

def cutV (xs:List Int) (a b:Int):List Int:=(xs.drop a.toNat).take (b.toNat - a.toNat)

end Go.Proofs.Ytcepgfcolmdnoaa.E
