/-
  No cell of these rows narrows 'for every input' (looked for: loops, veiled, ifaces, maps, wideKeys, modest, calm, conditions, laid).
  DERIVED. THE GIVEN ROWS OF THIS SEAT. 11 by the template 'for every input the law returns true; each argument reads behind the call as it read before'; 0 by the template 'total and deterministic' (their statements: YtpcnpmeimemeaaaTotals.lean).
  GIVEN WITH THE SEED: the statements are not yours to turn. If you find one false, say at which input.
  Laid BY PROGRAM, IN A SANDBOX (cutbox-rows.mjs): the forced cells as the released guide's own fill.sh prints them over the translation 1af23de1c288d5e4… (all of the seat's roots in one cut). By AI agents, Wed Nov 11 2026. No macro, syntax, notation, axiom, sorry.
-/
import Derived.Test.YtpcnpmeimemeaaaChecked
import GoSem.Claim
import GoSem.ClaimJoined
import GoSem.ClaimMapViews
import Derived.JoinedTies
import Derived.KernelRfl
namespace Go.Proofs.Ytpcnpmeimemeaaa
/- THE CELL 'sum', in the pinned program and in every row, IS THE sha256 OF THE DUMP (.gsa) THAT YtpcnpmeimemeaaaProg.lean LOADS. Nothing in Lean hashes anything: it is a label: what it is worth is what the hold of that sum in a sandbox is worth. -/
noncomputable def Try.pinned : Pinned := { name := "ytpcnpmeimemeaaa", sum := "1af23de1c288d5e4ddb9d2fd996ec387098a305316251f16c8b13c3cd1d1c7b4", checked := Try.checked }
namespace Rows
def none {H : Type} : Left H := { results := [], args := [] }

/-- 'laws.FnExactLivesAt': WHATEVER THE INPUT: true; the input reads as it did. -/
def fnExactLivesAtSpec : ChangeSpec := { name := "fnExactLivesAt", fn := fun _ => fun
  | [d1, d2] => { results := [.lit (.bool true)], args := [d1, d2] }
  | _ => none }
def fnExactLivesAtRow : OpenClaim := { program := "ytpcnpmeimemeaaa", sum := "1af23de1c288d5e4ddb9d2fd996ec387098a305316251f16c8b13c3cd1d1c7b4", func := "loop.example/g01984/laws.FnExactLivesAt", spec := "fnExactLivesAt", apart := false }
def FnExactLivesAtSaid : Prop := fnExactLivesAtRow.holds Try.pinned (OpenSpec.ofChange fnExactLivesAtSpec)

/-- ITS FALSE NEIGHBOUR: 'it returns false'. Refute it at one input. -/
def fnExactLivesAtWrong : ChangeSpec := { name := "fnExactLivesAt", fn := fun _ => fun
  | [d1, d2] => { results := [.lit (.bool false)], args := [d1, d2] }
  | _ => none }
def FnExactLivesAtWrongFalsely : Prop := fnExactLivesAtRow.holds Try.pinned (OpenSpec.ofChange fnExactLivesAtWrong)

/-- 'laws.FnExactJoinAggregates': WHATEVER THE INPUT: true; the input reads as it did. -/
def fnExactJoinAggregatesSpec : ChangeSpec := { name := "fnExactJoinAggregates", fn := fun _ => fun
  | [d1, d2] => { results := [.lit (.bool true)], args := [d1, d2] }
  | _ => none }
def fnExactJoinAggregatesRow : OpenClaim := { program := "ytpcnpmeimemeaaa", sum := "1af23de1c288d5e4ddb9d2fd996ec387098a305316251f16c8b13c3cd1d1c7b4", func := "loop.example/g01984/laws.FnExactJoinAggregates", spec := "fnExactJoinAggregates", apart := false }
def FnExactJoinAggregatesSaid : Prop := fnExactJoinAggregatesRow.holds Try.pinned (OpenSpec.ofChange fnExactJoinAggregatesSpec)

/-- ITS FALSE NEIGHBOUR: 'it returns false'. Refute it at one input. -/
def fnExactJoinAggregatesWrong : ChangeSpec := { name := "fnExactJoinAggregates", fn := fun _ => fun
  | [d1, d2] => { results := [.lit (.bool false)], args := [d1, d2] }
  | _ => none }
def FnExactJoinAggregatesWrongFalsely : Prop := fnExactJoinAggregatesRow.holds Try.pinned (OpenSpec.ofChange fnExactJoinAggregatesWrong)

/-- 'laws.FnExactAggregateOf': WHATEVER THE INPUT: true; the input reads as it did. -/
def fnExactAggregateOfSpec : ChangeSpec := { name := "fnExactAggregateOf", fn := fun _ => fun
  | [d] => { results := [.lit (.bool true)], args := [d] }
  | _ => none }
def fnExactAggregateOfRow : OpenClaim := { program := "ytpcnpmeimemeaaa", sum := "1af23de1c288d5e4ddb9d2fd996ec387098a305316251f16c8b13c3cd1d1c7b4", func := "loop.example/g01984/laws.FnExactAggregateOf", spec := "fnExactAggregateOf", unfollowed := true, recurses := true, apart := false }
def FnExactAggregateOfSaid : Prop := fnExactAggregateOfRow.holds Try.pinned (OpenSpec.ofChange fnExactAggregateOfSpec)

/-- ITS FALSE NEIGHBOUR: 'it returns false'. Refute it at one input. -/
def fnExactAggregateOfWrong : ChangeSpec := { name := "fnExactAggregateOf", fn := fun _ => fun
  | [d] => { results := [.lit (.bool false)], args := [d] }
  | _ => none }
def FnExactAggregateOfWrongFalsely : Prop := fnExactAggregateOfRow.holds Try.pinned (OpenSpec.ofChange fnExactAggregateOfWrong)

/-- 'laws.FnExactEqualMaps': WHATEVER THE INPUT: true; the input reads as it did. -/
def fnExactEqualMapsSpec : ChangeSpec := { name := "fnExactEqualMaps", fn := fun _ => fun
  | [d1, d2] => { results := [.lit (.bool true)], args := [d1, d2] }
  | _ => none }
def fnExactEqualMapsRow : OpenClaim := { program := "ytpcnpmeimemeaaa", sum := "1af23de1c288d5e4ddb9d2fd996ec387098a305316251f16c8b13c3cd1d1c7b4", func := "loop.example/g01984/laws.FnExactEqualMaps", spec := "fnExactEqualMaps", apart := false }
def FnExactEqualMapsSaid : Prop := fnExactEqualMapsRow.holds Try.pinned (OpenSpec.ofChange fnExactEqualMapsSpec)

/-- ITS FALSE NEIGHBOUR: 'it returns false'. Refute it at one input. -/
def fnExactEqualMapsWrong : ChangeSpec := { name := "fnExactEqualMaps", fn := fun _ => fun
  | [d1, d2] => { results := [.lit (.bool false)], args := [d1, d2] }
  | _ => none }
def FnExactEqualMapsWrongFalsely : Prop := fnExactEqualMapsRow.holds Try.pinned (OpenSpec.ofChange fnExactEqualMapsWrong)

/-- 'laws.FnExactNewMap': WHATEVER THE INPUT: true; the input reads as it did. -/
def fnExactNewMapSpec : ChangeSpec := { name := "fnExactNewMap", fn := fun _ => fun
  | [d1, d2] => { results := [.lit (.bool true)], args := [d1, d2] }
  | _ => none }
def fnExactNewMapRow : OpenClaim := { program := "ytpcnpmeimemeaaa", sum := "1af23de1c288d5e4ddb9d2fd996ec387098a305316251f16c8b13c3cd1d1c7b4", func := "loop.example/g01984/laws.FnExactNewMap", spec := "fnExactNewMap", unfollowed := true, recurses := true, apart := false }
def FnExactNewMapSaid : Prop := fnExactNewMapRow.holds Try.pinned (OpenSpec.ofChange fnExactNewMapSpec)

/-- ITS FALSE NEIGHBOUR: 'it returns false'. Refute it at one input. -/
def fnExactNewMapWrong : ChangeSpec := { name := "fnExactNewMap", fn := fun _ => fun
  | [d1, d2] => { results := [.lit (.bool false)], args := [d1, d2] }
  | _ => none }
def FnExactNewMapWrongFalsely : Prop := fnExactNewMapRow.holds Try.pinned (OpenSpec.ofChange fnExactNewMapWrong)

/-- 'laws.FnExactIsMap': WHATEVER THE INPUT: true; the input reads as it did. -/
def fnExactIsMapSpec : ChangeSpec := { name := "fnExactIsMap", fn := fun _ => fun
  | [d] => { results := [.lit (.bool true)], args := [d] }
  | _ => none }
def fnExactIsMapRow : OpenClaim := { program := "ytpcnpmeimemeaaa", sum := "1af23de1c288d5e4ddb9d2fd996ec387098a305316251f16c8b13c3cd1d1c7b4", func := "loop.example/g01984/laws.FnExactIsMap", spec := "fnExactIsMap", unfollowed := true, recurses := true, apart := false }
def FnExactIsMapSaid : Prop := fnExactIsMapRow.holds Try.pinned (OpenSpec.ofChange fnExactIsMapSpec)

/-- ITS FALSE NEIGHBOUR: 'it returns false'. Refute it at one input. -/
def fnExactIsMapWrong : ChangeSpec := { name := "fnExactIsMap", fn := fun _ => fun
  | [d] => { results := [.lit (.bool false)], args := [d] }
  | _ => none }
def FnExactIsMapWrongFalsely : Prop := fnExactIsMapRow.holds Try.pinned (OpenSpec.ofChange fnExactIsMapWrong)

/-- 'laws.FnExactAreAligned': WHATEVER THE INPUT: true; the input reads as it did. -/
def fnExactAreAlignedSpec : ChangeSpec := { name := "fnExactAreAligned", fn := fun _ => fun
  | [d1, d2] => { results := [.lit (.bool true)], args := [d1, d2] }
  | _ => none }
def fnExactAreAlignedRow : OpenClaim := { program := "ytpcnpmeimemeaaa", sum := "1af23de1c288d5e4ddb9d2fd996ec387098a305316251f16c8b13c3cd1d1c7b4", func := "loop.example/g01984/laws.FnExactAreAligned", spec := "fnExactAreAligned", unfollowed := true, recurses := true, apart := false }
def FnExactAreAlignedSaid : Prop := fnExactAreAlignedRow.holds Try.pinned (OpenSpec.ofChange fnExactAreAlignedSpec)

/-- ITS FALSE NEIGHBOUR: 'it returns false'. Refute it at one input. -/
def fnExactAreAlignedWrong : ChangeSpec := { name := "fnExactAreAligned", fn := fun _ => fun
  | [d1, d2] => { results := [.lit (.bool false)], args := [d1, d2] }
  | _ => none }
def FnExactAreAlignedWrongFalsely : Prop := fnExactAreAlignedRow.holds Try.pinned (OpenSpec.ofChange fnExactAreAlignedWrong)

/-- 'laws.FnExactIsSortedPiece': WHATEVER THE INPUT: true; the input reads as it did. -/
def fnExactIsSortedPieceSpec : ChangeSpec := { name := "fnExactIsSortedPiece", fn := fun _ => fun
  | [d1, d2] => { results := [.lit (.bool true)], args := [d1, d2] }
  | _ => none }
def fnExactIsSortedPieceRow : OpenClaim := { program := "ytpcnpmeimemeaaa", sum := "1af23de1c288d5e4ddb9d2fd996ec387098a305316251f16c8b13c3cd1d1c7b4", func := "loop.example/g01984/laws.FnExactIsSortedPiece", spec := "fnExactIsSortedPiece", unfollowed := true, recurses := true, apart := false }
def FnExactIsSortedPieceSaid : Prop := fnExactIsSortedPieceRow.holds Try.pinned (OpenSpec.ofChange fnExactIsSortedPieceSpec)

/-- ITS FALSE NEIGHBOUR: 'it returns false'. Refute it at one input. -/
def fnExactIsSortedPieceWrong : ChangeSpec := { name := "fnExactIsSortedPiece", fn := fun _ => fun
  | [d1, d2] => { results := [.lit (.bool false)], args := [d1, d2] }
  | _ => none }
def FnExactIsSortedPieceWrongFalsely : Prop := fnExactIsSortedPieceRow.holds Try.pinned (OpenSpec.ofChange fnExactIsSortedPieceWrong)

/-- 'laws.FnExactSortedPart': WHATEVER THE INPUT: true; the input reads as it did. -/
def fnExactSortedPartSpec : ChangeSpec := { name := "fnExactSortedPart", fn := fun _ => fun
  | [d] => { results := [.lit (.bool true)], args := [d] }
  | _ => none }
def fnExactSortedPartRow : OpenClaim := { program := "ytpcnpmeimemeaaa", sum := "1af23de1c288d5e4ddb9d2fd996ec387098a305316251f16c8b13c3cd1d1c7b4", func := "loop.example/g01984/laws.FnExactSortedPart", spec := "fnExactSortedPart", unfollowed := true, recurses := true, apart := false }
def FnExactSortedPartSaid : Prop := fnExactSortedPartRow.holds Try.pinned (OpenSpec.ofChange fnExactSortedPartSpec)

/-- ITS FALSE NEIGHBOUR: 'it returns false'. Refute it at one input. -/
def fnExactSortedPartWrong : ChangeSpec := { name := "fnExactSortedPart", fn := fun _ => fun
  | [d] => { results := [.lit (.bool false)], args := [d] }
  | _ => none }
def FnExactSortedPartWrongFalsely : Prop := fnExactSortedPartRow.holds Try.pinned (OpenSpec.ofChange fnExactSortedPartWrong)

/-- 'laws.FnExactBuiltMaps': WHATEVER THE INPUT: true; the input reads as it did. -/
def fnExactBuiltMapsSpec : ChangeSpec := { name := "fnExactBuiltMaps", fn := fun _ => fun
  | [d] => { results := [.lit (.bool true)], args := [d] }
  | _ => none }
def fnExactBuiltMapsRow : OpenClaim := { program := "ytpcnpmeimemeaaa", sum := "1af23de1c288d5e4ddb9d2fd996ec387098a305316251f16c8b13c3cd1d1c7b4", func := "loop.example/g01984/laws.FnExactBuiltMaps", spec := "fnExactBuiltMaps", apart := false }
def FnExactBuiltMapsSaid : Prop := fnExactBuiltMapsRow.holds Try.pinned (OpenSpec.ofChange fnExactBuiltMapsSpec)

/-- ITS FALSE NEIGHBOUR: 'it returns false'. Refute it at one input. -/
def fnExactBuiltMapsWrong : ChangeSpec := { name := "fnExactBuiltMaps", fn := fun _ => fun
  | [d] => { results := [.lit (.bool false)], args := [d] }
  | _ => none }
def FnExactBuiltMapsWrongFalsely : Prop := fnExactBuiltMapsRow.holds Try.pinned (OpenSpec.ofChange fnExactBuiltMapsWrong)

/-- 'laws.FnExactEqualMapSets': WHATEVER THE INPUT: true; the input reads as it did. -/
def fnExactEqualMapSetsSpec : ChangeSpec := { name := "fnExactEqualMapSets", fn := fun _ => fun
  | [d1, d2] => { results := [.lit (.bool true)], args := [d1, d2] }
  | _ => none }
def fnExactEqualMapSetsRow : OpenClaim := { program := "ytpcnpmeimemeaaa", sum := "1af23de1c288d5e4ddb9d2fd996ec387098a305316251f16c8b13c3cd1d1c7b4", func := "loop.example/g01984/laws.FnExactEqualMapSets", spec := "fnExactEqualMapSets", unfollowed := true, recurses := true, apart := false }
def FnExactEqualMapSetsSaid : Prop := fnExactEqualMapSetsRow.holds Try.pinned (OpenSpec.ofChange fnExactEqualMapSetsSpec)

/-- ITS FALSE NEIGHBOUR: 'it returns false'. Refute it at one input. -/
def fnExactEqualMapSetsWrong : ChangeSpec := { name := "fnExactEqualMapSets", fn := fun _ => fun
  | [d1, d2] => { results := [.lit (.bool false)], args := [d1, d2] }
  | _ => none }
def FnExactEqualMapSetsWrongFalsely : Prop := fnExactEqualMapSetsRow.holds Try.pinned (OpenSpec.ofChange fnExactEqualMapSetsWrong)

/- THE SECOND FORM. 'bulk': how many values and letters a reading holds, each counted each time it is reached (what is shared counts as often as it is met; a slice's spare places count too). A statement '..UptoSaid' is the law's where the arguments, and the package variables that the reading takes, are together of bulk at most 1048576: NARROWER than '..Said'. Prove '..Said' where nothing that the law and all that it calls make is longer than what came in: it says more and counts as full. Else prove '..UptoSaid'. A law counts once. -/
mutual
def uptoBulk {H : Type} : DataW H → Nat
  | .lit (.string bytes) => bytes.length + 1
  | .lit _ => 1
  | .nil => 1
  | .ptr d => uptoBulk d + 1
  | .slice elems spare => uptoBulkAll elems + uptoBulkAll spare + 1
  | .agg parts => uptoBulkAll parts + 1
  | .iface _ d => uptoBulk d + 1
  | .map entries => uptoBulkEntries entries + 1
  | .held _ => 1
def uptoBulkAll {H : Type} : List (DataW H) → Nat
  | [] => 0
  | d :: r => uptoBulk d + uptoBulkAll r
def uptoBulkEntries {H : Type} : List (Lit × DataW H) → Nat
  | [] => 0
  | x :: r => uptoBulkEntry x + uptoBulkEntries r
def uptoBulkEntry {H : Type} : Lit × DataW H → Nat
  | (.string bytes, d) => bytes.length + uptoBulk d + 1
  | (_, d) => uptoBulk d + 1
 end
def uptoSmall : (H : Type) → List (DataW H) → Bool := fun _ ds => decide (uptoBulkAll ds ≤ 1048576)
def OpenSpec.upto (s : _root_.Go.ChangeSpec) : _root_.Go.OpenSpec := { _root_.Go.OpenSpec.ofChange s with cond := some uptoSmall }

/-- 'laws.FnExactLivesAt', WHERE WHAT IT READS IS OF BULK AT MOST 1048576: true; the input reads as it did. -/
def fnExactLivesAtUptoRow : OpenClaim := { program := "ytpcnpmeimemeaaa", sum := "1af23de1c288d5e4ddb9d2fd996ec387098a305316251f16c8b13c3cd1d1c7b4", func := "loop.example/g01984/laws.FnExactLivesAt", spec := "fnExactLivesAt", apart := false, narrowed := true }
def FnExactLivesAtUptoSaid : Prop := fnExactLivesAtUptoRow.holds Try.pinned (OpenSpec.upto fnExactLivesAtSpec)

/-- 'laws.FnExactJoinAggregates', WHERE WHAT IT READS IS OF BULK AT MOST 1048576: true; the input reads as it did. -/
def fnExactJoinAggregatesUptoRow : OpenClaim := { program := "ytpcnpmeimemeaaa", sum := "1af23de1c288d5e4ddb9d2fd996ec387098a305316251f16c8b13c3cd1d1c7b4", func := "loop.example/g01984/laws.FnExactJoinAggregates", spec := "fnExactJoinAggregates", apart := false, narrowed := true }
def FnExactJoinAggregatesUptoSaid : Prop := fnExactJoinAggregatesUptoRow.holds Try.pinned (OpenSpec.upto fnExactJoinAggregatesSpec)

/-- 'laws.FnExactAggregateOf', WHERE WHAT IT READS IS OF BULK AT MOST 1048576: true; the input reads as it did. -/
def fnExactAggregateOfUptoRow : OpenClaim := { program := "ytpcnpmeimemeaaa", sum := "1af23de1c288d5e4ddb9d2fd996ec387098a305316251f16c8b13c3cd1d1c7b4", func := "loop.example/g01984/laws.FnExactAggregateOf", spec := "fnExactAggregateOf", unfollowed := true, recurses := true, apart := false, narrowed := true }
def FnExactAggregateOfUptoSaid : Prop := fnExactAggregateOfUptoRow.holds Try.pinned (OpenSpec.upto fnExactAggregateOfSpec)

/-- 'laws.FnExactEqualMaps', WHERE WHAT IT READS IS OF BULK AT MOST 1048576: true; the input reads as it did. -/
def fnExactEqualMapsUptoRow : OpenClaim := { program := "ytpcnpmeimemeaaa", sum := "1af23de1c288d5e4ddb9d2fd996ec387098a305316251f16c8b13c3cd1d1c7b4", func := "loop.example/g01984/laws.FnExactEqualMaps", spec := "fnExactEqualMaps", apart := false, narrowed := true }
def FnExactEqualMapsUptoSaid : Prop := fnExactEqualMapsUptoRow.holds Try.pinned (OpenSpec.upto fnExactEqualMapsSpec)

/-- 'laws.FnExactNewMap', WHERE WHAT IT READS IS OF BULK AT MOST 1048576: true; the input reads as it did. -/
def fnExactNewMapUptoRow : OpenClaim := { program := "ytpcnpmeimemeaaa", sum := "1af23de1c288d5e4ddb9d2fd996ec387098a305316251f16c8b13c3cd1d1c7b4", func := "loop.example/g01984/laws.FnExactNewMap", spec := "fnExactNewMap", unfollowed := true, recurses := true, apart := false, narrowed := true }
def FnExactNewMapUptoSaid : Prop := fnExactNewMapUptoRow.holds Try.pinned (OpenSpec.upto fnExactNewMapSpec)

/-- 'laws.FnExactIsMap', WHERE WHAT IT READS IS OF BULK AT MOST 1048576: true; the input reads as it did. -/
def fnExactIsMapUptoRow : OpenClaim := { program := "ytpcnpmeimemeaaa", sum := "1af23de1c288d5e4ddb9d2fd996ec387098a305316251f16c8b13c3cd1d1c7b4", func := "loop.example/g01984/laws.FnExactIsMap", spec := "fnExactIsMap", unfollowed := true, recurses := true, apart := false, narrowed := true }
def FnExactIsMapUptoSaid : Prop := fnExactIsMapUptoRow.holds Try.pinned (OpenSpec.upto fnExactIsMapSpec)

/-- 'laws.FnExactAreAligned', WHERE WHAT IT READS IS OF BULK AT MOST 1048576: true; the input reads as it did. -/
def fnExactAreAlignedUptoRow : OpenClaim := { program := "ytpcnpmeimemeaaa", sum := "1af23de1c288d5e4ddb9d2fd996ec387098a305316251f16c8b13c3cd1d1c7b4", func := "loop.example/g01984/laws.FnExactAreAligned", spec := "fnExactAreAligned", unfollowed := true, recurses := true, apart := false, narrowed := true }
def FnExactAreAlignedUptoSaid : Prop := fnExactAreAlignedUptoRow.holds Try.pinned (OpenSpec.upto fnExactAreAlignedSpec)

/-- 'laws.FnExactIsSortedPiece', WHERE WHAT IT READS IS OF BULK AT MOST 1048576: true; the input reads as it did. -/
def fnExactIsSortedPieceUptoRow : OpenClaim := { program := "ytpcnpmeimemeaaa", sum := "1af23de1c288d5e4ddb9d2fd996ec387098a305316251f16c8b13c3cd1d1c7b4", func := "loop.example/g01984/laws.FnExactIsSortedPiece", spec := "fnExactIsSortedPiece", unfollowed := true, recurses := true, apart := false, narrowed := true }
def FnExactIsSortedPieceUptoSaid : Prop := fnExactIsSortedPieceUptoRow.holds Try.pinned (OpenSpec.upto fnExactIsSortedPieceSpec)

/-- 'laws.FnExactSortedPart', WHERE WHAT IT READS IS OF BULK AT MOST 1048576: true; the input reads as it did. -/
def fnExactSortedPartUptoRow : OpenClaim := { program := "ytpcnpmeimemeaaa", sum := "1af23de1c288d5e4ddb9d2fd996ec387098a305316251f16c8b13c3cd1d1c7b4", func := "loop.example/g01984/laws.FnExactSortedPart", spec := "fnExactSortedPart", unfollowed := true, recurses := true, apart := false, narrowed := true }
def FnExactSortedPartUptoSaid : Prop := fnExactSortedPartUptoRow.holds Try.pinned (OpenSpec.upto fnExactSortedPartSpec)

/-- 'laws.FnExactBuiltMaps', WHERE WHAT IT READS IS OF BULK AT MOST 1048576: true; the input reads as it did. -/
def fnExactBuiltMapsUptoRow : OpenClaim := { program := "ytpcnpmeimemeaaa", sum := "1af23de1c288d5e4ddb9d2fd996ec387098a305316251f16c8b13c3cd1d1c7b4", func := "loop.example/g01984/laws.FnExactBuiltMaps", spec := "fnExactBuiltMaps", apart := false, narrowed := true }
def FnExactBuiltMapsUptoSaid : Prop := fnExactBuiltMapsUptoRow.holds Try.pinned (OpenSpec.upto fnExactBuiltMapsSpec)

/-- 'laws.FnExactEqualMapSets', WHERE WHAT IT READS IS OF BULK AT MOST 1048576: true; the input reads as it did. -/
def fnExactEqualMapSetsUptoRow : OpenClaim := { program := "ytpcnpmeimemeaaa", sum := "1af23de1c288d5e4ddb9d2fd996ec387098a305316251f16c8b13c3cd1d1c7b4", func := "loop.example/g01984/laws.FnExactEqualMapSets", spec := "fnExactEqualMapSets", unfollowed := true, recurses := true, apart := false, narrowed := true }
def FnExactEqualMapSetsUptoSaid : Prop := fnExactEqualMapSetsUptoRow.holds Try.pinned (OpenSpec.upto fnExactEqualMapSetsSpec)

end Rows
end Go.Proofs.Ytpcnpmeimemeaaa
