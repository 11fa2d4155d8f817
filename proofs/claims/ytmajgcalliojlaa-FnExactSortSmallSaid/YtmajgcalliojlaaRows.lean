/-
  No cell of these rows narrows 'for every input' (looked for: loops, veiled, ifaces, maps, wideKeys, modest, calm, conditions, laid).
  DERIVED. THE GIVEN ROWS OF THIS SEAT. 11 by the template 'for every input the law returns true; each argument reads behind the call as it read before'; 0 by the template 'total and deterministic' (their statements: YtmajgcalliojlaaTotals.lean).
  GIVEN WITH THE SEED: the statements are not yours to turn. If you find one false, say at which input.
  Laid BY PROGRAM, IN A SANDBOX (cutbox-rows.mjs): the forced cells as the released guide's own fill.sh prints them over the translation d78a87706de09520… (all of the seat's roots in one cut). By AI agents, Wed Nov 11 2026. No macro, syntax, notation, axiom, sorry.
-/
import Derived.Test.YtmajgcalliojlaaChecked
import GoSem.Claim
import GoSem.ClaimJoined
import GoSem.ClaimMapViews
import Derived.JoinedTies
import Derived.KernelRfl
namespace Go.Proofs.Ytmajgcalliojlaa
/- THE CELL 'sum', in the pinned program and in every row, IS THE sha256 OF THE DUMP (.gsa) THAT YtmajgcalliojlaaProg.lean LOADS. Nothing in Lean hashes anything: it is a label: what it is worth is what the hold of that sum in a sandbox is worth. -/
noncomputable def Try.pinned : Pinned := { name := "ytmajgcalliojlaa", sum := "d78a87706de095203e3f71d136c30cbbfccc04228be9a9d3cd6214e364bdafe1", checked := Try.checked }
namespace Rows
def none {H : Type} : Left H := { results := [], args := [] }

/-- 'laws.FnExactAggregateRange': WHATEVER THE INPUT: true; the input reads as it did. -/
def fnExactAggregateRangeSpec : ChangeSpec := { name := "fnExactAggregateRange", fn := fun _ => fun
  | [d1, d2] => { results := [.lit (.bool true)], args := [d1, d2] }
  | _ => none }
def fnExactAggregateRangeRow : OpenClaim := { program := "ytmajgcalliojlaa", sum := "d78a87706de095203e3f71d136c30cbbfccc04228be9a9d3cd6214e364bdafe1", func := "loop.example/g01984/laws.FnExactAggregateRange", spec := "fnExactAggregateRange", inPlace := ["slices.overlaps[loop.example/g01984/impl.Pivot]"], unfollowed := true, recurses := true, apart := false }
def FnExactAggregateRangeSaid : Prop := fnExactAggregateRangeRow.holds Try.pinned (OpenSpec.ofChange fnExactAggregateRangeSpec)

/-- ITS FALSE NEIGHBOUR: 'it returns false'. Refute it at one input. -/
def fnExactAggregateRangeWrong : ChangeSpec := { name := "fnExactAggregateRange", fn := fun _ => fun
  | [d1, d2] => { results := [.lit (.bool false)], args := [d1, d2] }
  | _ => none }
def FnExactAggregateRangeWrongFalsely : Prop := fnExactAggregateRangeRow.holds Try.pinned (OpenSpec.ofChange fnExactAggregateRangeWrong)

/-- 'laws.FnExactCrackMap': WHATEVER THE INPUT: true; the input reads as it did. -/
def fnExactCrackMapSpec : ChangeSpec := { name := "fnExactCrackMap", fn := fun _ => fun
  | [d1, d2] => { results := [.lit (.bool true)], args := [d1, d2] }
  | _ => none }
def fnExactCrackMapRow : OpenClaim := { program := "ytmajgcalliojlaa", sum := "d78a87706de095203e3f71d136c30cbbfccc04228be9a9d3cd6214e364bdafe1", func := "loop.example/g01984/laws.FnExactCrackMap", spec := "fnExactCrackMap", inPlace := ["slices.overlaps[loop.example/g01984/impl.Pivot]"], unfollowed := true, recurses := true, apart := false }
def FnExactCrackMapSaid : Prop := fnExactCrackMapRow.holds Try.pinned (OpenSpec.ofChange fnExactCrackMapSpec)

/-- ITS FALSE NEIGHBOUR: 'it returns false'. Refute it at one input. -/
def fnExactCrackMapWrong : ChangeSpec := { name := "fnExactCrackMap", fn := fun _ => fun
  | [d1, d2] => { results := [.lit (.bool false)], args := [d1, d2] }
  | _ => none }
def FnExactCrackMapWrongFalsely : Prop := fnExactCrackMapRow.holds Try.pinned (OpenSpec.ofChange fnExactCrackMapWrong)

/-- 'laws.FnExactAlignMap': WHATEVER THE INPUT: true; the input reads as it did. -/
def fnExactAlignMapSpec : ChangeSpec := { name := "fnExactAlignMap", fn := fun _ => fun
  | [d1, d2] => { results := [.lit (.bool true)], args := [d1, d2] }
  | _ => none }
def fnExactAlignMapRow : OpenClaim := { program := "ytmajgcalliojlaa", sum := "d78a87706de095203e3f71d136c30cbbfccc04228be9a9d3cd6214e364bdafe1", func := "loop.example/g01984/laws.FnExactAlignMap", spec := "fnExactAlignMap", inPlace := ["slices.overlaps[loop.example/g01984/impl.Pivot]"], unfollowed := true, recurses := true, apart := false }
def FnExactAlignMapSaid : Prop := fnExactAlignMapRow.holds Try.pinned (OpenSpec.ofChange fnExactAlignMapSpec)

/-- ITS FALSE NEIGHBOUR: 'it returns false'. Refute it at one input. -/
def fnExactAlignMapWrong : ChangeSpec := { name := "fnExactAlignMap", fn := fun _ => fun
  | [d1, d2] => { results := [.lit (.bool false)], args := [d1, d2] }
  | _ => none }
def FnExactAlignMapWrongFalsely : Prop := fnExactAlignMapRow.holds Try.pinned (OpenSpec.ofChange fnExactAlignMapWrong)

/-- 'laws.FnExactCrackPosition': WHATEVER THE INPUT: true; the input reads as it did. -/
def fnExactCrackPositionSpec : ChangeSpec := { name := "fnExactCrackPosition", fn := fun _ => fun
  | [d1, d2] => { results := [.lit (.bool true)], args := [d1, d2] }
  | _ => none }
def fnExactCrackPositionRow : OpenClaim := { program := "ytmajgcalliojlaa", sum := "d78a87706de095203e3f71d136c30cbbfccc04228be9a9d3cd6214e364bdafe1", func := "loop.example/g01984/laws.FnExactCrackPosition", spec := "fnExactCrackPosition", inPlace := ["slices.overlaps[loop.example/g01984/impl.Pivot]"], unfollowed := true, recurses := true, apart := false }
def FnExactCrackPositionSaid : Prop := fnExactCrackPositionRow.holds Try.pinned (OpenSpec.ofChange fnExactCrackPositionSpec)

/-- ITS FALSE NEIGHBOUR: 'it returns false'. Refute it at one input. -/
def fnExactCrackPositionWrong : ChangeSpec := { name := "fnExactCrackPosition", fn := fun _ => fun
  | [d1, d2] => { results := [.lit (.bool false)], args := [d1, d2] }
  | _ => none }
def FnExactCrackPositionWrongFalsely : Prop := fnExactCrackPositionRow.holds Try.pinned (OpenSpec.ofChange fnExactCrackPositionWrong)

/-- 'laws.FnExactSmallestValues': WHATEVER THE INPUT: true; the input reads as it did. -/
def fnExactSmallestValuesSpec : ChangeSpec := { name := "fnExactSmallestValues", fn := fun _ => fun
  | [d1, d2] => { results := [.lit (.bool true)], args := [d1, d2] }
  | _ => none }
def fnExactSmallestValuesRow : OpenClaim := { program := "ytmajgcalliojlaa", sum := "d78a87706de095203e3f71d136c30cbbfccc04228be9a9d3cd6214e364bdafe1", func := "loop.example/g01984/laws.FnExactSmallestValues", spec := "fnExactSmallestValues", inPlace := ["slices.overlaps[loop.example/g01984/impl.Pivot]"], unfollowed := true, recurses := true, apart := false }
def FnExactSmallestValuesSaid : Prop := fnExactSmallestValuesRow.holds Try.pinned (OpenSpec.ofChange fnExactSmallestValuesSpec)

/-- ITS FALSE NEIGHBOUR: 'it returns false'. Refute it at one input. -/
def fnExactSmallestValuesWrong : ChangeSpec := { name := "fnExactSmallestValues", fn := fun _ => fun
  | [d1, d2] => { results := [.lit (.bool false)], args := [d1, d2] }
  | _ => none }
def FnExactSmallestValuesWrongFalsely : Prop := fnExactSmallestValuesRow.holds Try.pinned (OpenSpec.ofChange fnExactSmallestValuesWrong)

/-- 'laws.FnExactKthValue': WHATEVER THE INPUT: true; the input reads as it did. -/
def fnExactKthValueSpec : ChangeSpec := { name := "fnExactKthValue", fn := fun _ => fun
  | [d1, d2] => { results := [.lit (.bool true)], args := [d1, d2] }
  | _ => none }
def fnExactKthValueRow : OpenClaim := { program := "ytmajgcalliojlaa", sum := "d78a87706de095203e3f71d136c30cbbfccc04228be9a9d3cd6214e364bdafe1", func := "loop.example/g01984/laws.FnExactKthValue", spec := "fnExactKthValue", inPlace := ["slices.overlaps[loop.example/g01984/impl.Pivot]"], unfollowed := true, recurses := true, apart := false }
def FnExactKthValueSaid : Prop := fnExactKthValueRow.holds Try.pinned (OpenSpec.ofChange fnExactKthValueSpec)

/-- ITS FALSE NEIGHBOUR: 'it returns false'. Refute it at one input. -/
def fnExactKthValueWrong : ChangeSpec := { name := "fnExactKthValue", fn := fun _ => fun
  | [d1, d2] => { results := [.lit (.bool false)], args := [d1, d2] }
  | _ => none }
def FnExactKthValueWrongFalsely : Prop := fnExactKthValueRow.holds Try.pinned (OpenSpec.ofChange fnExactKthValueWrong)

/-- 'laws.FnExactLargestValues': WHATEVER THE INPUT: true; the input reads as it did. -/
def fnExactLargestValuesSpec : ChangeSpec := { name := "fnExactLargestValues", fn := fun _ => fun
  | [d1, d2] => { results := [.lit (.bool true)], args := [d1, d2] }
  | _ => none }
def fnExactLargestValuesRow : OpenClaim := { program := "ytmajgcalliojlaa", sum := "d78a87706de095203e3f71d136c30cbbfccc04228be9a9d3cd6214e364bdafe1", func := "loop.example/g01984/laws.FnExactLargestValues", spec := "fnExactLargestValues", inPlace := ["slices.overlaps[loop.example/g01984/impl.Pivot]"], unfollowed := true, recurses := true, apart := false }
def FnExactLargestValuesSaid : Prop := fnExactLargestValuesRow.holds Try.pinned (OpenSpec.ofChange fnExactLargestValuesSpec)

/-- ITS FALSE NEIGHBOUR: 'it returns false'. Refute it at one input. -/
def fnExactLargestValuesWrong : ChangeSpec := { name := "fnExactLargestValues", fn := fun _ => fun
  | [d1, d2] => { results := [.lit (.bool false)], args := [d1, d2] }
  | _ => none }
def FnExactLargestValuesWrongFalsely : Prop := fnExactLargestValuesRow.holds Try.pinned (OpenSpec.ofChange fnExactLargestValuesWrong)

/-- 'laws.FnExactSortPiece': WHATEVER THE INPUT: true; the input reads as it did. -/
def fnExactSortPieceSpec : ChangeSpec := { name := "fnExactSortPiece", fn := fun _ => fun
  | [d1, d2] => { results := [.lit (.bool true)], args := [d1, d2] }
  | _ => none }
def fnExactSortPieceRow : OpenClaim := { program := "ytmajgcalliojlaa", sum := "d78a87706de095203e3f71d136c30cbbfccc04228be9a9d3cd6214e364bdafe1", func := "loop.example/g01984/laws.FnExactSortPiece", spec := "fnExactSortPiece", unfollowed := true, recurses := true, apart := false }
def FnExactSortPieceSaid : Prop := fnExactSortPieceRow.holds Try.pinned (OpenSpec.ofChange fnExactSortPieceSpec)

/-- ITS FALSE NEIGHBOUR: 'it returns false'. Refute it at one input. -/
def fnExactSortPieceWrong : ChangeSpec := { name := "fnExactSortPiece", fn := fun _ => fun
  | [d1, d2] => { results := [.lit (.bool false)], args := [d1, d2] }
  | _ => none }
def FnExactSortPieceWrongFalsely : Prop := fnExactSortPieceRow.holds Try.pinned (OpenSpec.ofChange fnExactSortPieceWrong)

/-- 'laws.FnExactSortSmall': WHATEVER THE INPUT: true; the input reads as it did. -/
def fnExactSortSmallSpec : ChangeSpec := { name := "fnExactSortSmall", fn := fun _ => fun
  | [d1, d2] => { results := [.lit (.bool true)], args := [d1, d2] }
  | _ => none }
def fnExactSortSmallRow : OpenClaim := { program := "ytmajgcalliojlaa", sum := "d78a87706de095203e3f71d136c30cbbfccc04228be9a9d3cd6214e364bdafe1", func := "loop.example/g01984/laws.FnExactSortSmall", spec := "fnExactSortSmall", unfollowed := true, recurses := true, apart := false }
def FnExactSortSmallSaid : Prop := fnExactSortSmallRow.holds Try.pinned (OpenSpec.ofChange fnExactSortSmallSpec)

/-- ITS FALSE NEIGHBOUR: 'it returns false'. Refute it at one input. -/
def fnExactSortSmallWrong : ChangeSpec := { name := "fnExactSortSmall", fn := fun _ => fun
  | [d1, d2] => { results := [.lit (.bool false)], args := [d1, d2] }
  | _ => none }
def FnExactSortSmallWrongFalsely : Prop := fnExactSortSmallRow.holds Try.pinned (OpenSpec.ofChange fnExactSortSmallWrong)

/-- 'laws.FnExactSortedRange': WHATEVER THE INPUT: true; the input reads as it did. -/
def fnExactSortedRangeSpec : ChangeSpec := { name := "fnExactSortedRange", fn := fun _ => fun
  | [d1, d2] => { results := [.lit (.bool true)], args := [d1, d2] }
  | _ => none }
def fnExactSortedRangeRow : OpenClaim := { program := "ytmajgcalliojlaa", sum := "d78a87706de095203e3f71d136c30cbbfccc04228be9a9d3cd6214e364bdafe1", func := "loop.example/g01984/laws.FnExactSortedRange", spec := "fnExactSortedRange", inPlace := ["slices.overlaps[loop.example/g01984/impl.Pivot]"], unfollowed := true, recurses := true, apart := false }
def FnExactSortedRangeSaid : Prop := fnExactSortedRangeRow.holds Try.pinned (OpenSpec.ofChange fnExactSortedRangeSpec)

/-- ITS FALSE NEIGHBOUR: 'it returns false'. Refute it at one input. -/
def fnExactSortedRangeWrong : ChangeSpec := { name := "fnExactSortedRange", fn := fun _ => fun
  | [d1, d2] => { results := [.lit (.bool false)], args := [d1, d2] }
  | _ => none }
def FnExactSortedRangeWrongFalsely : Prop := fnExactSortedRangeRow.holds Try.pinned (OpenSpec.ofChange fnExactSortedRangeWrong)

/-- 'laws.FnExactCrackWith': WHATEVER THE INPUT: true; the input reads as it did. -/
def fnExactCrackWithSpec : ChangeSpec := { name := "fnExactCrackWith", fn := fun _ => fun
  | [d1, d2, d3] => { results := [.lit (.bool true)], args := [d1, d2, d3] }
  | _ => none }
def fnExactCrackWithRow : OpenClaim := { program := "ytmajgcalliojlaa", sum := "d78a87706de095203e3f71d136c30cbbfccc04228be9a9d3cd6214e364bdafe1", func := "loop.example/g01984/laws.FnExactCrackWith", spec := "fnExactCrackWith", inPlace := ["slices.overlaps[loop.example/g01984/impl.Pivot]"], unfollowed := true, recurses := true, apart := false }
def FnExactCrackWithSaid : Prop := fnExactCrackWithRow.holds Try.pinned (OpenSpec.ofChange fnExactCrackWithSpec)

/-- ITS FALSE NEIGHBOUR: 'it returns false'. Refute it at one input. -/
def fnExactCrackWithWrong : ChangeSpec := { name := "fnExactCrackWith", fn := fun _ => fun
  | [d1, d2, d3] => { results := [.lit (.bool false)], args := [d1, d2, d3] }
  | _ => none }
def FnExactCrackWithWrongFalsely : Prop := fnExactCrackWithRow.holds Try.pinned (OpenSpec.ofChange fnExactCrackWithWrong)

/- THE SECOND FORM. 'bulk': how many values and letters a reading holds, each counted each time it is reached (what is shared counts as often as it is met; a slice's spare places count too). A statement '..UptoSaid' is the law's where the arguments, and the package variables that the reading takes, are together of bulk at most 1048576: NARROWER than '..Said'. Prove '..Said' where nothing that the law and all that it calls make is longer than what came in: it says more and counts as full. Else prove '..UptoSaid'. A law counts once. -/
mutual
def uptoBulk {H : Type} : DataW H → Nat
  | .lit (.string bytes) => bytes.length + 1
  | .lit _ => 1
  | .nil => 1
  | .ptr d => uptoBulk d + 1
  | .slice elems spare => uptoBulkAll elems + uptoBulkAll spare + 1
  | .agg parts => uptoBulkAll parts + 1
  | .iface _ d => uptoBulk d + 1
  | .map entries => uptoBulkEntries entries + 1
  | .held _ => 1
def uptoBulkAll {H : Type} : List (DataW H) → Nat
  | [] => 0
  | d :: r => uptoBulk d + uptoBulkAll r
def uptoBulkEntries {H : Type} : List (Lit × DataW H) → Nat
  | [] => 0
  | x :: r => uptoBulkEntry x + uptoBulkEntries r
def uptoBulkEntry {H : Type} : Lit × DataW H → Nat
  | (.string bytes, d) => bytes.length + uptoBulk d + 1
  | (_, d) => uptoBulk d + 1
 end
def uptoSmall : (H : Type) → List (DataW H) → Bool := fun _ ds => decide (uptoBulkAll ds ≤ 1048576)
def OpenSpec.upto (s : _root_.Go.ChangeSpec) : _root_.Go.OpenSpec := { _root_.Go.OpenSpec.ofChange s with cond := some uptoSmall }

/-- 'laws.FnExactAggregateRange', WHERE WHAT IT READS IS OF BULK AT MOST 1048576: true; the input reads as it did. -/
def fnExactAggregateRangeUptoRow : OpenClaim := { program := "ytmajgcalliojlaa", sum := "d78a87706de095203e3f71d136c30cbbfccc04228be9a9d3cd6214e364bdafe1", func := "loop.example/g01984/laws.FnExactAggregateRange", spec := "fnExactAggregateRange", inPlace := ["slices.overlaps[loop.example/g01984/impl.Pivot]"], unfollowed := true, recurses := true, apart := false, narrowed := true }
def FnExactAggregateRangeUptoSaid : Prop := fnExactAggregateRangeUptoRow.holds Try.pinned (OpenSpec.upto fnExactAggregateRangeSpec)

/-- 'laws.FnExactCrackMap', WHERE WHAT IT READS IS OF BULK AT MOST 1048576: true; the input reads as it did. -/
def fnExactCrackMapUptoRow : OpenClaim := { program := "ytmajgcalliojlaa", sum := "d78a87706de095203e3f71d136c30cbbfccc04228be9a9d3cd6214e364bdafe1", func := "loop.example/g01984/laws.FnExactCrackMap", spec := "fnExactCrackMap", inPlace := ["slices.overlaps[loop.example/g01984/impl.Pivot]"], unfollowed := true, recurses := true, apart := false, narrowed := true }
def FnExactCrackMapUptoSaid : Prop := fnExactCrackMapUptoRow.holds Try.pinned (OpenSpec.upto fnExactCrackMapSpec)

/-- 'laws.FnExactAlignMap', WHERE WHAT IT READS IS OF BULK AT MOST 1048576: true; the input reads as it did. -/
def fnExactAlignMapUptoRow : OpenClaim := { program := "ytmajgcalliojlaa", sum := "d78a87706de095203e3f71d136c30cbbfccc04228be9a9d3cd6214e364bdafe1", func := "loop.example/g01984/laws.FnExactAlignMap", spec := "fnExactAlignMap", inPlace := ["slices.overlaps[loop.example/g01984/impl.Pivot]"], unfollowed := true, recurses := true, apart := false, narrowed := true }
def FnExactAlignMapUptoSaid : Prop := fnExactAlignMapUptoRow.holds Try.pinned (OpenSpec.upto fnExactAlignMapSpec)

/-- 'laws.FnExactCrackPosition', WHERE WHAT IT READS IS OF BULK AT MOST 1048576: true; the input reads as it did. -/
def fnExactCrackPositionUptoRow : OpenClaim := { program := "ytmajgcalliojlaa", sum := "d78a87706de095203e3f71d136c30cbbfccc04228be9a9d3cd6214e364bdafe1", func := "loop.example/g01984/laws.FnExactCrackPosition", spec := "fnExactCrackPosition", inPlace := ["slices.overlaps[loop.example/g01984/impl.Pivot]"], unfollowed := true, recurses := true, apart := false, narrowed := true }
def FnExactCrackPositionUptoSaid : Prop := fnExactCrackPositionUptoRow.holds Try.pinned (OpenSpec.upto fnExactCrackPositionSpec)

/-- 'laws.FnExactSmallestValues', WHERE WHAT IT READS IS OF BULK AT MOST 1048576: true; the input reads as it did. -/
def fnExactSmallestValuesUptoRow : OpenClaim := { program := "ytmajgcalliojlaa", sum := "d78a87706de095203e3f71d136c30cbbfccc04228be9a9d3cd6214e364bdafe1", func := "loop.example/g01984/laws.FnExactSmallestValues", spec := "fnExactSmallestValues", inPlace := ["slices.overlaps[loop.example/g01984/impl.Pivot]"], unfollowed := true, recurses := true, apart := false, narrowed := true }
def FnExactSmallestValuesUptoSaid : Prop := fnExactSmallestValuesUptoRow.holds Try.pinned (OpenSpec.upto fnExactSmallestValuesSpec)

/-- 'laws.FnExactKthValue', WHERE WHAT IT READS IS OF BULK AT MOST 1048576: true; the input reads as it did. -/
def fnExactKthValueUptoRow : OpenClaim := { program := "ytmajgcalliojlaa", sum := "d78a87706de095203e3f71d136c30cbbfccc04228be9a9d3cd6214e364bdafe1", func := "loop.example/g01984/laws.FnExactKthValue", spec := "fnExactKthValue", inPlace := ["slices.overlaps[loop.example/g01984/impl.Pivot]"], unfollowed := true, recurses := true, apart := false, narrowed := true }
def FnExactKthValueUptoSaid : Prop := fnExactKthValueUptoRow.holds Try.pinned (OpenSpec.upto fnExactKthValueSpec)

/-- 'laws.FnExactLargestValues', WHERE WHAT IT READS IS OF BULK AT MOST 1048576: true; the input reads as it did. -/
def fnExactLargestValuesUptoRow : OpenClaim := { program := "ytmajgcalliojlaa", sum := "d78a87706de095203e3f71d136c30cbbfccc04228be9a9d3cd6214e364bdafe1", func := "loop.example/g01984/laws.FnExactLargestValues", spec := "fnExactLargestValues", inPlace := ["slices.overlaps[loop.example/g01984/impl.Pivot]"], unfollowed := true, recurses := true, apart := false, narrowed := true }
def FnExactLargestValuesUptoSaid : Prop := fnExactLargestValuesUptoRow.holds Try.pinned (OpenSpec.upto fnExactLargestValuesSpec)

/-- 'laws.FnExactSortPiece', WHERE WHAT IT READS IS OF BULK AT MOST 1048576: true; the input reads as it did. -/
def fnExactSortPieceUptoRow : OpenClaim := { program := "ytmajgcalliojlaa", sum := "d78a87706de095203e3f71d136c30cbbfccc04228be9a9d3cd6214e364bdafe1", func := "loop.example/g01984/laws.FnExactSortPiece", spec := "fnExactSortPiece", unfollowed := true, recurses := true, apart := false, narrowed := true }
def FnExactSortPieceUptoSaid : Prop := fnExactSortPieceUptoRow.holds Try.pinned (OpenSpec.upto fnExactSortPieceSpec)

/-- 'laws.FnExactSortSmall', WHERE WHAT IT READS IS OF BULK AT MOST 1048576: true; the input reads as it did. -/
def fnExactSortSmallUptoRow : OpenClaim := { program := "ytmajgcalliojlaa", sum := "d78a87706de095203e3f71d136c30cbbfccc04228be9a9d3cd6214e364bdafe1", func := "loop.example/g01984/laws.FnExactSortSmall", spec := "fnExactSortSmall", unfollowed := true, recurses := true, apart := false, narrowed := true }
def FnExactSortSmallUptoSaid : Prop := fnExactSortSmallUptoRow.holds Try.pinned (OpenSpec.upto fnExactSortSmallSpec)

/-- 'laws.FnExactSortedRange', WHERE WHAT IT READS IS OF BULK AT MOST 1048576: true; the input reads as it did. -/
def fnExactSortedRangeUptoRow : OpenClaim := { program := "ytmajgcalliojlaa", sum := "d78a87706de095203e3f71d136c30cbbfccc04228be9a9d3cd6214e364bdafe1", func := "loop.example/g01984/laws.FnExactSortedRange", spec := "fnExactSortedRange", inPlace := ["slices.overlaps[loop.example/g01984/impl.Pivot]"], unfollowed := true, recurses := true, apart := false, narrowed := true }
def FnExactSortedRangeUptoSaid : Prop := fnExactSortedRangeUptoRow.holds Try.pinned (OpenSpec.upto fnExactSortedRangeSpec)

/-- 'laws.FnExactCrackWith', WHERE WHAT IT READS IS OF BULK AT MOST 1048576: true; the input reads as it did. -/
def fnExactCrackWithUptoRow : OpenClaim := { program := "ytmajgcalliojlaa", sum := "d78a87706de095203e3f71d136c30cbbfccc04228be9a9d3cd6214e364bdafe1", func := "loop.example/g01984/laws.FnExactCrackWith", spec := "fnExactCrackWith", inPlace := ["slices.overlaps[loop.example/g01984/impl.Pivot]"], unfollowed := true, recurses := true, apart := false, narrowed := true }
def FnExactCrackWithUptoSaid : Prop := fnExactCrackWithUptoRow.holds Try.pinned (OpenSpec.upto fnExactCrackWithSpec)

end Rows
end Go.Proofs.Ytmajgcalliojlaa
