/- slices.Insert at pivots, walked over memory: what it leaves, road by road. -/
import Derived.Test.YtlodlnbhjghjoaaETab
import Derived.WalkKit
import Derived.Lib.Walk
import Derived.Lib.SliceRun
import Derived.Lib.JoinLaws
import Derived.Lib.AppendZeros
import Derived.Lib.AppendZerosOnto
import Derived.Lib.Overlaps
import Derived.Laws.Externs
import Derived.Laws.IdiomCopy
import Derived.Laws.NewBlocks
import Derived.Deep.RegionLaw
set_option linter.unusedVariables false
set_option linter.unusedSimpArgs false
namespace Go.Proofs.Ytlodlnbhjghjoaa.RI
open Go Go.RowKit Go.Lib Go.Proofs

variable {P : Program}

end Go.Proofs.Ytlodlnbhjghjoaa.RI
