/- Walks and words, put together. -/
import Derived.Test.YtjbbjicochipeaaGreatA11
import Derived.Test.YtjbbjicochipeaaGreatA06
import Derived.Test.YtjbbjicochipeaaGreatA08
import Derived.Test.YtjbbjicochipeaaGreatA14
namespace Go.Proofs.YtjbbjicochipeaaGreat.E
open Go Go.RowKit Go.Proofs
set_option linter.unusedVariables false
set_option linter.unusedSimpArgs false

structure Pnd where
 ins:List (Int × Int)
 del:List Int
 deriving DecidableEq
end Go.Proofs.YtjbbjicochipeaaGreat.E

namespace Go.Proofs.YtjbbjicochipeaaGreat.E
open Go Go.RowKit Go.Proofs
set_option linter.unusedVariables false
set_option linter.unusedSimpArgs false

theorem pb_of {R:List Res} {i off:Nat} {cs:List AC} (h:R[i]? = some (.box cs)):ptrOk R (.c (.bp i off))=true:=by simp [ptrOk,h]
end Go.Proofs.YtjbbjicochipeaaGreat.E
