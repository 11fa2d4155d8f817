/-
  No cell of these rows narrows 'for every input' (looked for: loops, veiled, ifaces, maps, wideKeys, modest, calm, conditions, laid).
  DERIVED. THE GIVEN ROWS OF THIS SEAT. 7 by the template 'for every input the law returns true; each argument reads behind the call as it read before'; 0 by the template 'total and deterministic' (their statements: YthlhmpknngidmaaGreatTotals.lean).
  GIVEN WITH THE SEED: the statements are not yours to turn. If you find one false, say at which input.
  Laid BY PROGRAM, IN A SANDBOX (cutbox-rows.mjs): the forced cells as the released guide's own fill.sh prints them over the translation 4a3ca8eca8ebb4c3… (all of the seat's roots in one cut). By AI agents, Wed Nov 11 2026. No macro, syntax, notation, axiom, sorry.
-/
import Derived.Test.YthlhmpknngidmaaGreatChecked
import GoSem.Claim
import GoSem.ClaimJoined
import GoSem.ClaimMapViews
import Derived.JoinedTies
import Derived.KernelRfl
namespace Go.Proofs.YthlhmpknngidmaaGreat
/- THE CELL 'sum', in the pinned program and in every row, IS THE sha256 OF THE DUMP (.gsa) THAT YthlhmpknngidmaaGreatProg.lean LOADS. Nothing in Lean hashes anything: it is a label: what it is worth is what the hold of that sum in a sandbox is worth. -/
noncomputable def Tryz.pinned : Pinned := { name := "ythlhmpknngidmaagreat", sum := "4a3ca8eca8ebb4c3906d530a8654d35e6a9d62d8ae2d44662321102ebccd5b87", checked := Tryz.checked }
namespace Rows
def none {H : Type} : Left H := { results := [], args := [] }

/-- 'laws.FnExactBuildMap': WHATEVER THE INPUT: true; the input reads as it did. -/
def fnExactBuildMapSpec : ChangeSpec := { name := "fnExactBuildMap", fn := fun _ => fun
  | [d1, d2] => { results := [.lit (.bool true)], args := [d1, d2] }
  | _ => none }
def fnExactBuildMapRow : OpenClaim := { program := "ythlhmpknngidmaagreat", sum := "4a3ca8eca8ebb4c3906d530a8654d35e6a9d62d8ae2d44662321102ebccd5b87", func := "loop.example/g01984/laws.FnExactBuildMap", spec := "fnExactBuildMap", inPlace := ["slices.overlaps[loop.example/g01984/impl.Pivot]"], unfollowed := true, recurses := true, apart := false }
def FnExactBuildMapSaid : Prop := fnExactBuildMapRow.holds Tryz.pinned (OpenSpec.ofChange fnExactBuildMapSpec)

/-- ITS FALSE NEIGHBOUR: 'it returns false'. Refute it at one input. -/
def fnExactBuildMapWrong : ChangeSpec := { name := "fnExactBuildMap", fn := fun _ => fun
  | [d1, d2] => { results := [.lit (.bool false)], args := [d1, d2] }
  | _ => none }
def FnExactBuildMapWrongFalsely : Prop := fnExactBuildMapRow.holds Tryz.pinned (OpenSpec.ofChange fnExactBuildMapWrong)

/-- 'laws.FnExactScanWhere': WHATEVER THE INPUT: true; the input reads as it did. -/
def fnExactScanWhereSpec : ChangeSpec := { name := "fnExactScanWhere", fn := fun _ => fun
  | [d1, d2, d3, d4] => { results := [.lit (.bool true)], args := [d1, d2, d3, d4] }
  | _ => none }
def fnExactScanWhereRow : OpenClaim := { program := "ythlhmpknngidmaagreat", sum := "4a3ca8eca8ebb4c3906d530a8654d35e6a9d62d8ae2d44662321102ebccd5b87", func := "loop.example/g01984/laws.FnExactScanWhere", spec := "fnExactScanWhere", inPlace := ["slices.overlaps[loop.example/g01984/impl.Pivot]"], unfollowed := true, recurses := true, apart := false }
def FnExactScanWhereSaid : Prop := fnExactScanWhereRow.holds Tryz.pinned (OpenSpec.ofChange fnExactScanWhereSpec)

/-- ITS FALSE NEIGHBOUR: 'it returns false'. Refute it at one input. -/
def fnExactScanWhereWrong : ChangeSpec := { name := "fnExactScanWhere", fn := fun _ => fun
  | [d1, d2, d3, d4] => { results := [.lit (.bool false)], args := [d1, d2, d3, d4] }
  | _ => none }
def FnExactScanWhereWrongFalsely : Prop := fnExactScanWhereRow.holds Tryz.pinned (OpenSpec.ofChange fnExactScanWhereWrong)

/-- 'laws.FnExactQueryMaps': WHATEVER THE INPUT: true; the input reads as it did. -/
def fnExactQueryMapsSpec : ChangeSpec := { name := "fnExactQueryMaps", fn := fun _ => fun
  | [d1, d2, d3] => { results := [.lit (.bool true)], args := [d1, d2, d3] }
  | _ => none }
def fnExactQueryMapsRow : OpenClaim := { program := "ythlhmpknngidmaagreat", sum := "4a3ca8eca8ebb4c3906d530a8654d35e6a9d62d8ae2d44662321102ebccd5b87", func := "loop.example/g01984/laws.FnExactQueryMaps", spec := "fnExactQueryMaps", inPlace := ["slices.overlaps[loop.example/g01984/impl.Pivot]"], unfollowed := true, recurses := true, apart := false }
def FnExactQueryMapsSaid : Prop := fnExactQueryMapsRow.holds Tryz.pinned (OpenSpec.ofChange fnExactQueryMapsSpec)

/-- ITS FALSE NEIGHBOUR: 'it returns false'. Refute it at one input. -/
def fnExactQueryMapsWrong : ChangeSpec := { name := "fnExactQueryMaps", fn := fun _ => fun
  | [d1, d2, d3] => { results := [.lit (.bool false)], args := [d1, d2, d3] }
  | _ => none }
def FnExactQueryMapsWrongFalsely : Prop := fnExactQueryMapsRow.holds Tryz.pinned (OpenSpec.ofChange fnExactQueryMapsWrong)

/-- 'laws.FnExactSelectWhere': WHATEVER THE INPUT: true; the input reads as it did. -/
def fnExactSelectWhereSpec : ChangeSpec := { name := "fnExactSelectWhere", fn := fun _ => fun
  | [d1, d2, d3, d4] => { results := [.lit (.bool true)], args := [d1, d2, d3, d4] }
  | _ => none }
def fnExactSelectWhereRow : OpenClaim := { program := "ythlhmpknngidmaagreat", sum := "4a3ca8eca8ebb4c3906d530a8654d35e6a9d62d8ae2d44662321102ebccd5b87", func := "loop.example/g01984/laws.FnExactSelectWhere", spec := "fnExactSelectWhere", inPlace := ["slices.overlaps[loop.example/g01984/impl.Pivot]"], unfollowed := true, recurses := true, apart := false }
def FnExactSelectWhereSaid : Prop := fnExactSelectWhereRow.holds Tryz.pinned (OpenSpec.ofChange fnExactSelectWhereSpec)

/-- ITS FALSE NEIGHBOUR: 'it returns false'. Refute it at one input. -/
def fnExactSelectWhereWrong : ChangeSpec := { name := "fnExactSelectWhere", fn := fun _ => fun
  | [d1, d2, d3, d4] => { results := [.lit (.bool false)], args := [d1, d2, d3, d4] }
  | _ => none }
def FnExactSelectWhereWrongFalsely : Prop := fnExactSelectWhereRow.holds Tryz.pinned (OpenSpec.ofChange fnExactSelectWhereWrong)

/-- 'laws.FnMapSets': WHATEVER THE INPUT: true; the input reads as it did. -/
def fnMapSetsSpec : ChangeSpec := { name := "fnMapSets", fn := fun _ => fun
  | [d] => { results := [.lit (.bool true)], args := [d] }
  | _ => none }
def fnMapSetsRow : OpenClaim := { program := "ythlhmpknngidmaagreat", sum := "4a3ca8eca8ebb4c3906d530a8654d35e6a9d62d8ae2d44662321102ebccd5b87", func := "loop.example/g01984/laws.FnMapSets", spec := "fnMapSets", inPlace := ["slices.overlaps[loop.example/g01984/impl.Pivot]"], unfollowed := true, recurses := true, apart := false }
def FnMapSetsSaid : Prop := fnMapSetsRow.holds Tryz.pinned (OpenSpec.ofChange fnMapSetsSpec)

/-- ITS FALSE NEIGHBOUR: 'it returns false'. Refute it at one input. -/
def fnMapSetsWrong : ChangeSpec := { name := "fnMapSets", fn := fun _ => fun
  | [d] => { results := [.lit (.bool false)], args := [d] }
  | _ => none }
def FnMapSetsWrongFalsely : Prop := fnMapSetsRow.holds Tryz.pinned (OpenSpec.ofChange fnMapSetsWrong)

/-- 'laws.FnBuilds': WHATEVER THE INPUT: true; the input reads as it did. -/
def fnBuildsSpec : ChangeSpec := { name := "fnBuilds", fn := fun _ => fun
  | [d] => { results := [.lit (.bool true)], args := [d] }
  | _ => none }
def fnBuildsRow : OpenClaim := { program := "ythlhmpknngidmaagreat", sum := "4a3ca8eca8ebb4c3906d530a8654d35e6a9d62d8ae2d44662321102ebccd5b87", func := "loop.example/g01984/laws.FnBuilds", spec := "fnBuilds", inPlace := ["slices.overlaps[loop.example/g01984/impl.Pivot]"], unfollowed := true, recurses := true, apart := false }
def FnBuildsSaid : Prop := fnBuildsRow.holds Tryz.pinned (OpenSpec.ofChange fnBuildsSpec)

/-- ITS FALSE NEIGHBOUR: 'it returns false'. Refute it at one input. -/
def fnBuildsWrong : ChangeSpec := { name := "fnBuilds", fn := fun _ => fun
  | [d] => { results := [.lit (.bool false)], args := [d] }
  | _ => none }
def FnBuildsWrongFalsely : Prop := fnBuildsRow.holds Tryz.pinned (OpenSpec.ofChange fnBuildsWrong)

/-- 'laws.FnWhere': WHATEVER THE INPUT: true; the input reads as it did. -/
def fnWhereSpec : ChangeSpec := { name := "fnWhere", fn := fun _ => fun
  | [d] => { results := [.lit (.bool true)], args := [d] }
  | _ => none }
def fnWhereRow : OpenClaim := { program := "ythlhmpknngidmaagreat", sum := "4a3ca8eca8ebb4c3906d530a8654d35e6a9d62d8ae2d44662321102ebccd5b87", func := "loop.example/g01984/laws.FnWhere", spec := "fnWhere", inPlace := ["slices.overlaps[loop.example/g01984/impl.Pivot]"], unfollowed := true, recurses := true, apart := false }
def FnWhereSaid : Prop := fnWhereRow.holds Tryz.pinned (OpenSpec.ofChange fnWhereSpec)

/-- ITS FALSE NEIGHBOUR: 'it returns false'. Refute it at one input. -/
def fnWhereWrong : ChangeSpec := { name := "fnWhere", fn := fun _ => fun
  | [d] => { results := [.lit (.bool false)], args := [d] }
  | _ => none }
def FnWhereWrongFalsely : Prop := fnWhereRow.holds Tryz.pinned (OpenSpec.ofChange fnWhereWrong)

/- THE SECOND FORM. 'bulk': how many values and letters a reading holds, each counted each time it is reached (what is shared counts as often as it is met; a slice's spare places count too). A statement '..UptoSaid' is the law's where the arguments, and the package variables that the reading takes, are together of bulk at most 1048576: NARROWER than '..Said'. Prove '..Said' where nothing that the law and all that it calls make is longer than what came in: it says more and counts as full. Else prove '..UptoSaid'. A law counts once. -/
mutual
def uptoBulk {H : Type} : DataW H → Nat
  | .lit (.string bytes) => bytes.length + 1
  | .lit _ => 1
  | .nil => 1
  | .ptr d => uptoBulk d + 1
  | .slice elems spare => uptoBulkAll elems + uptoBulkAll spare + 1
  | .agg parts => uptoBulkAll parts + 1
  | .iface _ d => uptoBulk d + 1
  | .map entries => uptoBulkEntries entries + 1
  | .held _ => 1
def uptoBulkAll {H : Type} : List (DataW H) → Nat
  | [] => 0
  | d :: r => uptoBulk d + uptoBulkAll r
def uptoBulkEntries {H : Type} : List (Lit × DataW H) → Nat
  | [] => 0
  | x :: r => uptoBulkEntry x + uptoBulkEntries r
def uptoBulkEntry {H : Type} : Lit × DataW H → Nat
  | (.string bytes, d) => bytes.length + uptoBulk d + 1
  | (_, d) => uptoBulk d + 1
 end
def uptoSmall : (H : Type) → List (DataW H) → Bool := fun _ ds => decide (uptoBulkAll ds ≤ 1048576)
def OpenSpec.upto (s : _root_.Go.ChangeSpec) : _root_.Go.OpenSpec := { _root_.Go.OpenSpec.ofChange s with cond := some uptoSmall }

/-- 'laws.FnExactBuildMap', WHERE WHAT IT READS IS OF BULK AT MOST 1048576: true; the input reads as it did. -/
def fnExactBuildMapUptoRow : OpenClaim := { program := "ythlhmpknngidmaagreat", sum := "4a3ca8eca8ebb4c3906d530a8654d35e6a9d62d8ae2d44662321102ebccd5b87", func := "loop.example/g01984/laws.FnExactBuildMap", spec := "fnExactBuildMap", inPlace := ["slices.overlaps[loop.example/g01984/impl.Pivot]"], unfollowed := true, recurses := true, apart := false, narrowed := true }
def FnExactBuildMapUptoSaid : Prop := fnExactBuildMapUptoRow.holds Tryz.pinned (OpenSpec.upto fnExactBuildMapSpec)

/-- 'laws.FnExactScanWhere', WHERE WHAT IT READS IS OF BULK AT MOST 1048576: true; the input reads as it did. -/
def fnExactScanWhereUptoRow : OpenClaim := { program := "ythlhmpknngidmaagreat", sum := "4a3ca8eca8ebb4c3906d530a8654d35e6a9d62d8ae2d44662321102ebccd5b87", func := "loop.example/g01984/laws.FnExactScanWhere", spec := "fnExactScanWhere", inPlace := ["slices.overlaps[loop.example/g01984/impl.Pivot]"], unfollowed := true, recurses := true, apart := false, narrowed := true }
def FnExactScanWhereUptoSaid : Prop := fnExactScanWhereUptoRow.holds Tryz.pinned (OpenSpec.upto fnExactScanWhereSpec)

/-- 'laws.FnExactQueryMaps', WHERE WHAT IT READS IS OF BULK AT MOST 1048576: true; the input reads as it did. -/
def fnExactQueryMapsUptoRow : OpenClaim := { program := "ythlhmpknngidmaagreat", sum := "4a3ca8eca8ebb4c3906d530a8654d35e6a9d62d8ae2d44662321102ebccd5b87", func := "loop.example/g01984/laws.FnExactQueryMaps", spec := "fnExactQueryMaps", inPlace := ["slices.overlaps[loop.example/g01984/impl.Pivot]"], unfollowed := true, recurses := true, apart := false, narrowed := true }
def FnExactQueryMapsUptoSaid : Prop := fnExactQueryMapsUptoRow.holds Tryz.pinned (OpenSpec.upto fnExactQueryMapsSpec)

/-- 'laws.FnExactSelectWhere', WHERE WHAT IT READS IS OF BULK AT MOST 1048576: true; the input reads as it did. -/
def fnExactSelectWhereUptoRow : OpenClaim := { program := "ythlhmpknngidmaagreat", sum := "4a3ca8eca8ebb4c3906d530a8654d35e6a9d62d8ae2d44662321102ebccd5b87", func := "loop.example/g01984/laws.FnExactSelectWhere", spec := "fnExactSelectWhere", inPlace := ["slices.overlaps[loop.example/g01984/impl.Pivot]"], unfollowed := true, recurses := true, apart := false, narrowed := true }
def FnExactSelectWhereUptoSaid : Prop := fnExactSelectWhereUptoRow.holds Tryz.pinned (OpenSpec.upto fnExactSelectWhereSpec)

/-- 'laws.FnMapSets', WHERE WHAT IT READS IS OF BULK AT MOST 1048576: true; the input reads as it did. -/
def fnMapSetsUptoRow : OpenClaim := { program := "ythlhmpknngidmaagreat", sum := "4a3ca8eca8ebb4c3906d530a8654d35e6a9d62d8ae2d44662321102ebccd5b87", func := "loop.example/g01984/laws.FnMapSets", spec := "fnMapSets", inPlace := ["slices.overlaps[loop.example/g01984/impl.Pivot]"], unfollowed := true, recurses := true, apart := false, narrowed := true }
def FnMapSetsUptoSaid : Prop := fnMapSetsUptoRow.holds Tryz.pinned (OpenSpec.upto fnMapSetsSpec)

/-- 'laws.FnBuilds', WHERE WHAT IT READS IS OF BULK AT MOST 1048576: true; the input reads as it did. -/
def fnBuildsUptoRow : OpenClaim := { program := "ythlhmpknngidmaagreat", sum := "4a3ca8eca8ebb4c3906d530a8654d35e6a9d62d8ae2d44662321102ebccd5b87", func := "loop.example/g01984/laws.FnBuilds", spec := "fnBuilds", inPlace := ["slices.overlaps[loop.example/g01984/impl.Pivot]"], unfollowed := true, recurses := true, apart := false, narrowed := true }
def FnBuildsUptoSaid : Prop := fnBuildsUptoRow.holds Tryz.pinned (OpenSpec.upto fnBuildsSpec)

/-- 'laws.FnWhere', WHERE WHAT IT READS IS OF BULK AT MOST 1048576: true; the input reads as it did. -/
def fnWhereUptoRow : OpenClaim := { program := "ythlhmpknngidmaagreat", sum := "4a3ca8eca8ebb4c3906d530a8654d35e6a9d62d8ae2d44662321102ebccd5b87", func := "loop.example/g01984/laws.FnWhere", spec := "fnWhere", inPlace := ["slices.overlaps[loop.example/g01984/impl.Pivot]"], unfollowed := true, recurses := true, apart := false, narrowed := true }
def FnWhereUptoSaid : Prop := fnWhereUptoRow.holds Tryz.pinned (OpenSpec.upto fnWhereSpec)

end Rows
end Go.Proofs.YthlhmpknngidmaaGreat
