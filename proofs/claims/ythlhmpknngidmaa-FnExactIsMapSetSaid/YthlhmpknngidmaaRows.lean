/-
  No cell of these rows narrows 'for every input' (looked for: loops, veiled, ifaces, maps, wideKeys, modest, calm, conditions, laid).
  DERIVED. THE GIVEN ROWS OF THIS SEAT. 6 by the template 'for every input the law returns true; each argument reads behind the call as it read before'; 0 by the template 'total and deterministic' (their statements: YthlhmpknngidmaaTotals.lean).
  GIVEN WITH THE SEED: the statements are not yours to turn. If you find one false, say at which input.
  Laid BY PROGRAM, IN A SANDBOX (cutbox-rows.mjs): the forced cells as the released guide's own fill.sh prints them over the translation 6d50ca1c2b1623a0… (all of the seat's roots in one cut). By AI agents, Wed Nov 11 2026. No macro, syntax, notation, axiom, sorry.
-/
import Derived.Test.YthlhmpknngidmaaChecked
import GoSem.Claim
import GoSem.ClaimJoined
import GoSem.ClaimMapViews
import Derived.JoinedTies
import Derived.KernelRfl
namespace Go.Proofs.Ythlhmpknngidmaa
/- THE CELL 'sum', in the pinned program and in every row, IS THE sha256 OF THE DUMP (.gsa) THAT YthlhmpknngidmaaProg.lean LOADS. Nothing in Lean hashes anything: it is a label: what it is worth is what the hold of that sum in a sandbox is worth. -/
noncomputable def Try.pinned : Pinned := { name := "ythlhmpknngidmaa", sum := "6d50ca1c2b1623a09752334e373facda95333518a7ce0624df94052e863a0992", checked := Try.checked }
namespace Rows
def none {H : Type} : Left H := { results := [], args := [] }

/-- 'laws.FnExactSortTuples': WHATEVER THE INPUT: true; the input reads as it did. -/
def fnExactSortTuplesSpec : ChangeSpec := { name := "fnExactSortTuples", fn := fun _ => fun
  | [d] => { results := [.lit (.bool true)], args := [d] }
  | _ => none }
def fnExactSortTuplesRow : OpenClaim := { program := "ythlhmpknngidmaa", sum := "6d50ca1c2b1623a09752334e373facda95333518a7ce0624df94052e863a0992", func := "loop.example/g01984/laws.FnExactSortTuples", spec := "fnExactSortTuples", unfollowed := true, recurses := true, apart := false }
def FnExactSortTuplesSaid : Prop := fnExactSortTuplesRow.holds Try.pinned (OpenSpec.ofChange fnExactSortTuplesSpec)

/-- ITS FALSE NEIGHBOUR: 'it returns false'. Refute it at one input. -/
def fnExactSortTuplesWrong : ChangeSpec := { name := "fnExactSortTuples", fn := fun _ => fun
  | [d] => { results := [.lit (.bool false)], args := [d] }
  | _ => none }
def FnExactSortTuplesWrongFalsely : Prop := fnExactSortTuplesRow.holds Try.pinned (OpenSpec.ofChange fnExactSortTuplesWrong)

/-- 'laws.FnExactSameTuples': WHATEVER THE INPUT: true; the input reads as it did. -/
def fnExactSameTuplesSpec : ChangeSpec := { name := "fnExactSameTuples", fn := fun _ => fun
  | [d1, d2] => { results := [.lit (.bool true)], args := [d1, d2] }
  | _ => none }
def fnExactSameTuplesRow : OpenClaim := { program := "ythlhmpknngidmaa", sum := "6d50ca1c2b1623a09752334e373facda95333518a7ce0624df94052e863a0992", func := "loop.example/g01984/laws.FnExactSameTuples", spec := "fnExactSameTuples", unfollowed := true, recurses := true, apart := false }
def FnExactSameTuplesSaid : Prop := fnExactSameTuplesRow.holds Try.pinned (OpenSpec.ofChange fnExactSameTuplesSpec)

/-- ITS FALSE NEIGHBOUR: 'it returns false'. Refute it at one input. -/
def fnExactSameTuplesWrong : ChangeSpec := { name := "fnExactSameTuples", fn := fun _ => fun
  | [d1, d2] => { results := [.lit (.bool false)], args := [d1, d2] }
  | _ => none }
def FnExactSameTuplesWrongFalsely : Prop := fnExactSameTuplesRow.holds Try.pinned (OpenSpec.ofChange fnExactSameTuplesWrong)

/-- 'laws.FnExactBuiltMaps': WHATEVER THE INPUT: true; the input reads as it did. -/
def fnExactBuiltMapsSpec : ChangeSpec := { name := "fnExactBuiltMaps", fn := fun _ => fun
  | [d] => { results := [.lit (.bool true)], args := [d] }
  | _ => none }
def fnExactBuiltMapsRow : OpenClaim := { program := "ythlhmpknngidmaa", sum := "6d50ca1c2b1623a09752334e373facda95333518a7ce0624df94052e863a0992", func := "loop.example/g01984/laws.FnExactBuiltMaps", spec := "fnExactBuiltMaps", apart := false }
def FnExactBuiltMapsSaid : Prop := fnExactBuiltMapsRow.holds Try.pinned (OpenSpec.ofChange fnExactBuiltMapsSpec)

/-- ITS FALSE NEIGHBOUR: 'it returns false'. Refute it at one input. -/
def fnExactBuiltMapsWrong : ChangeSpec := { name := "fnExactBuiltMaps", fn := fun _ => fun
  | [d] => { results := [.lit (.bool false)], args := [d] }
  | _ => none }
def FnExactBuiltMapsWrongFalsely : Prop := fnExactBuiltMapsRow.holds Try.pinned (OpenSpec.ofChange fnExactBuiltMapsWrong)

/-- 'laws.FnExactEqualMapSets': WHATEVER THE INPUT: true; the input reads as it did. -/
def fnExactEqualMapSetsSpec : ChangeSpec := { name := "fnExactEqualMapSets", fn := fun _ => fun
  | [d1, d2] => { results := [.lit (.bool true)], args := [d1, d2] }
  | _ => none }
def fnExactEqualMapSetsRow : OpenClaim := { program := "ythlhmpknngidmaa", sum := "6d50ca1c2b1623a09752334e373facda95333518a7ce0624df94052e863a0992", func := "loop.example/g01984/laws.FnExactEqualMapSets", spec := "fnExactEqualMapSets", unfollowed := true, recurses := true, apart := false }
def FnExactEqualMapSetsSaid : Prop := fnExactEqualMapSetsRow.holds Try.pinned (OpenSpec.ofChange fnExactEqualMapSetsSpec)

/-- ITS FALSE NEIGHBOUR: 'it returns false'. Refute it at one input. -/
def fnExactEqualMapSetsWrong : ChangeSpec := { name := "fnExactEqualMapSets", fn := fun _ => fun
  | [d1, d2] => { results := [.lit (.bool false)], args := [d1, d2] }
  | _ => none }
def FnExactEqualMapSetsWrongFalsely : Prop := fnExactEqualMapSetsRow.holds Try.pinned (OpenSpec.ofChange fnExactEqualMapSetsWrong)

/-- 'laws.FnExactNewMapSet': WHATEVER THE INPUT: true; the input reads as it did. -/
def fnExactNewMapSetSpec : ChangeSpec := { name := "fnExactNewMapSet", fn := fun _ => fun
  | [d1, d2, d3] => { results := [.lit (.bool true)], args := [d1, d2, d3] }
  | _ => none }
def fnExactNewMapSetRow : OpenClaim := { program := "ythlhmpknngidmaa", sum := "6d50ca1c2b1623a09752334e373facda95333518a7ce0624df94052e863a0992", func := "loop.example/g01984/laws.FnExactNewMapSet", spec := "fnExactNewMapSet", unfollowed := true, recurses := true, apart := false }
def FnExactNewMapSetSaid : Prop := fnExactNewMapSetRow.holds Try.pinned (OpenSpec.ofChange fnExactNewMapSetSpec)

/-- ITS FALSE NEIGHBOUR: 'it returns false'. Refute it at one input. -/
def fnExactNewMapSetWrong : ChangeSpec := { name := "fnExactNewMapSet", fn := fun _ => fun
  | [d1, d2, d3] => { results := [.lit (.bool false)], args := [d1, d2, d3] }
  | _ => none }
def FnExactNewMapSetWrongFalsely : Prop := fnExactNewMapSetRow.holds Try.pinned (OpenSpec.ofChange fnExactNewMapSetWrong)

/-- 'laws.FnExactIsMapSet': WHATEVER THE INPUT: true; the input reads as it did. -/
def fnExactIsMapSetSpec : ChangeSpec := { name := "fnExactIsMapSet", fn := fun _ => fun
  | [d] => { results := [.lit (.bool true)], args := [d] }
  | _ => none }
def fnExactIsMapSetRow : OpenClaim := { program := "ythlhmpknngidmaa", sum := "6d50ca1c2b1623a09752334e373facda95333518a7ce0624df94052e863a0992", func := "loop.example/g01984/laws.FnExactIsMapSet", spec := "fnExactIsMapSet", inPlace := ["slices.overlaps[loop.example/g01984/impl.Pivot]"], unfollowed := true, recurses := true, apart := false }
def FnExactIsMapSetSaid : Prop := fnExactIsMapSetRow.holds Try.pinned (OpenSpec.ofChange fnExactIsMapSetSpec)

/-- ITS FALSE NEIGHBOUR: 'it returns false'. Refute it at one input. -/
def fnExactIsMapSetWrong : ChangeSpec := { name := "fnExactIsMapSet", fn := fun _ => fun
  | [d] => { results := [.lit (.bool false)], args := [d] }
  | _ => none }
def FnExactIsMapSetWrongFalsely : Prop := fnExactIsMapSetRow.holds Try.pinned (OpenSpec.ofChange fnExactIsMapSetWrong)

/- THE SECOND FORM. 'bulk': how many values and letters a reading holds, each counted each time it is reached (what is shared counts as often as it is met; a slice's spare places count too). A statement '..UptoSaid' is the law's where the arguments, and the package variables that the reading takes, are together of bulk at most 1048576: NARROWER than '..Said'. Prove '..Said' where nothing that the law and all that it calls make is longer than what came in: it says more and counts as full. Else prove '..UptoSaid'. A law counts once. -/
mutual
def uptoBulk {H : Type} : DataW H → Nat
  | .lit (.string bytes) => bytes.length + 1
  | .lit _ => 1
  | .nil => 1
  | .ptr d => uptoBulk d + 1
  | .slice elems spare => uptoBulkAll elems + uptoBulkAll spare + 1
  | .agg parts => uptoBulkAll parts + 1
  | .iface _ d => uptoBulk d + 1
  | .map entries => uptoBulkEntries entries + 1
  | .held _ => 1
def uptoBulkAll {H : Type} : List (DataW H) → Nat
  | [] => 0
  | d :: r => uptoBulk d + uptoBulkAll r
def uptoBulkEntries {H : Type} : List (Lit × DataW H) → Nat
  | [] => 0
  | x :: r => uptoBulkEntry x + uptoBulkEntries r
def uptoBulkEntry {H : Type} : Lit × DataW H → Nat
  | (.string bytes, d) => bytes.length + uptoBulk d + 1
  | (_, d) => uptoBulk d + 1
 end
def uptoSmall : (H : Type) → List (DataW H) → Bool := fun _ ds => decide (uptoBulkAll ds ≤ 1048576)
def OpenSpec.upto (s : _root_.Go.ChangeSpec) : _root_.Go.OpenSpec := { _root_.Go.OpenSpec.ofChange s with cond := some uptoSmall }

/-- 'laws.FnExactSortTuples', WHERE WHAT IT READS IS OF BULK AT MOST 1048576: true; the input reads as it did. -/
def fnExactSortTuplesUptoRow : OpenClaim := { program := "ythlhmpknngidmaa", sum := "6d50ca1c2b1623a09752334e373facda95333518a7ce0624df94052e863a0992", func := "loop.example/g01984/laws.FnExactSortTuples", spec := "fnExactSortTuples", unfollowed := true, recurses := true, apart := false, narrowed := true }
def FnExactSortTuplesUptoSaid : Prop := fnExactSortTuplesUptoRow.holds Try.pinned (OpenSpec.upto fnExactSortTuplesSpec)

/-- 'laws.FnExactSameTuples', WHERE WHAT IT READS IS OF BULK AT MOST 1048576: true; the input reads as it did. -/
def fnExactSameTuplesUptoRow : OpenClaim := { program := "ythlhmpknngidmaa", sum := "6d50ca1c2b1623a09752334e373facda95333518a7ce0624df94052e863a0992", func := "loop.example/g01984/laws.FnExactSameTuples", spec := "fnExactSameTuples", unfollowed := true, recurses := true, apart := false, narrowed := true }
def FnExactSameTuplesUptoSaid : Prop := fnExactSameTuplesUptoRow.holds Try.pinned (OpenSpec.upto fnExactSameTuplesSpec)

/-- 'laws.FnExactBuiltMaps', WHERE WHAT IT READS IS OF BULK AT MOST 1048576: true; the input reads as it did. -/
def fnExactBuiltMapsUptoRow : OpenClaim := { program := "ythlhmpknngidmaa", sum := "6d50ca1c2b1623a09752334e373facda95333518a7ce0624df94052e863a0992", func := "loop.example/g01984/laws.FnExactBuiltMaps", spec := "fnExactBuiltMaps", apart := false, narrowed := true }
def FnExactBuiltMapsUptoSaid : Prop := fnExactBuiltMapsUptoRow.holds Try.pinned (OpenSpec.upto fnExactBuiltMapsSpec)

/-- 'laws.FnExactEqualMapSets', WHERE WHAT IT READS IS OF BULK AT MOST 1048576: true; the input reads as it did. -/
def fnExactEqualMapSetsUptoRow : OpenClaim := { program := "ythlhmpknngidmaa", sum := "6d50ca1c2b1623a09752334e373facda95333518a7ce0624df94052e863a0992", func := "loop.example/g01984/laws.FnExactEqualMapSets", spec := "fnExactEqualMapSets", unfollowed := true, recurses := true, apart := false, narrowed := true }
def FnExactEqualMapSetsUptoSaid : Prop := fnExactEqualMapSetsUptoRow.holds Try.pinned (OpenSpec.upto fnExactEqualMapSetsSpec)

/-- 'laws.FnExactNewMapSet', WHERE WHAT IT READS IS OF BULK AT MOST 1048576: true; the input reads as it did. -/
def fnExactNewMapSetUptoRow : OpenClaim := { program := "ythlhmpknngidmaa", sum := "6d50ca1c2b1623a09752334e373facda95333518a7ce0624df94052e863a0992", func := "loop.example/g01984/laws.FnExactNewMapSet", spec := "fnExactNewMapSet", unfollowed := true, recurses := true, apart := false, narrowed := true }
def FnExactNewMapSetUptoSaid : Prop := fnExactNewMapSetUptoRow.holds Try.pinned (OpenSpec.upto fnExactNewMapSetSpec)

/-- 'laws.FnExactIsMapSet', WHERE WHAT IT READS IS OF BULK AT MOST 1048576: true; the input reads as it did. -/
def fnExactIsMapSetUptoRow : OpenClaim := { program := "ythlhmpknngidmaa", sum := "6d50ca1c2b1623a09752334e373facda95333518a7ce0624df94052e863a0992", func := "loop.example/g01984/laws.FnExactIsMapSet", spec := "fnExactIsMapSet", inPlace := ["slices.overlaps[loop.example/g01984/impl.Pivot]"], unfollowed := true, recurses := true, apart := false, narrowed := true }
def FnExactIsMapSetUptoSaid : Prop := fnExactIsMapSetUptoRow.holds Try.pinned (OpenSpec.upto fnExactIsMapSetSpec)

end Rows
end Go.Proofs.Ythlhmpknngidmaa
