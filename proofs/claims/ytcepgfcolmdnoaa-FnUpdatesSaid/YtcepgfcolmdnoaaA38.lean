/- Walks through functions, by program out of the session's annotations. -/
import Derived.Test.YtcepgfcolmdnoaaA37
namespace Go.Proofs.Ytcepgfcolmdnoaa.E
open Go Go.RowKit Go.Proofs
set_option linter.unusedVariables false
set_option linter.unusedSimpArgs false

theorem insPv_len (l : List (Int × Int)) (p : Int × Int) : (insPv l p).length = l.length + 1 := by
 have:=cutIx_le l p.1
 simp only [insPv,List.length_append,List.length_take,List.length_drop,List.length_singleton];omega
end Go.Proofs.Ytcepgfcolmdnoaa.E
