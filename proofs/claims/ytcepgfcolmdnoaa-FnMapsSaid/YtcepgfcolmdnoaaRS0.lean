/- slices.Sort at integers, laid at this program by the kit's own tool. -/
import Derived.Shelf.Sort.Plain
import Derived.Shelf.Slices.In.SortNone
import Derived.Test.YtcepgfcolmdnoaaProg
namespace Go.Proofs
open Go.Shelf
end Go.Proofs
