/- Walks through functions, by program out of the session's annotations. -/
import Derived.Test.YthlhmpknngidmaaGreatA14
import Derived.Test.YthlhmpknngidmaaGreatA24
namespace Go.Proofs.YthlhmpknngidmaaGreat.E
open Go Go.RowKit Go.Proofs
set_option linter.unusedVariables false
set_option linter.unusedSimpArgs false

theorem pb_of {R:List Res} {i off:Nat} {cs:List AC} (h:R[i]? = some (.box cs)):ptrOk R (.c (.bp i off))=true:=by simp [ptrOk,h]
end Go.Proofs.YthlhmpknngidmaaGreat.E
