/- slices.Sort at integers, a row of one's own: as a contract over resources. -/
import Derived.Test.YtcepgfcolmdnoaaRS0
import Derived.Test.YtcepgfcolmdnoaaF3
import Derived.Sort.OwnSortedInts
namespace Go.Proofs.Ytcepgfcolmdnoaa.E
open Go Go.RowKit Go.Lib Go.Sort
set_option linter.unusedVariables false
set_option linter.unusedSimpArgs false

end Go.Proofs.Ytcepgfcolmdnoaa.E
