/-
  No cell of these rows narrows 'for every input' (looked for: loops, veiled, ifaces, maps, wideKeys, modest, calm, conditions, laid).
  DERIVED. THE GIVEN ROWS OF THIS SEAT. 7 by the template 'for every input the law returns true; each argument reads behind the call as it read before'; 0 by the template 'total and deterministic' (their statements: YtcepgfcolmdnoaaTotals.lean).
  GIVEN WITH THE SEED: the statements are not yours to turn. If you find one false, say at which input.
  Laid BY PROGRAM, IN A SANDBOX (cutbox-rows.mjs): the forced cells as the released guide's own fill.sh prints them over the translation 4e16a973655d2139… (all of the seat's roots in one cut). By AI agents, Wed Nov 11 2026. No macro, syntax, notation, axiom, sorry.
-/
import Derived.Test.YtcepgfcolmdnoaaChecked
import GoSem.Claim
import GoSem.ClaimJoined
import GoSem.ClaimMapViews
import Derived.JoinedTies
import Derived.KernelRfl
namespace Go.Proofs.Ytcepgfcolmdnoaa
/- THE CELL 'sum', in the pinned program and in every row, IS THE sha256 OF THE DUMP (.gsa) THAT YtcepgfcolmdnoaaProg.lean LOADS. Nothing in Lean hashes anything: it is a label: what it is worth is what the hold of that sum in a sandbox is worth. -/
noncomputable def Try.pinned : Pinned := { name := "ytcepgfcolmdnoaa", sum := "4e16a973655d21395ec3bf4690875412e3370e62166363aec653f34b4e04539e", checked := Try.checked }
namespace Rows
def none {H : Type} : Left H := { results := [], args := [] }

/-- 'laws.FnMapCracks': WHATEVER THE INPUT: true; the input reads as it did. -/
def fnMapCracksSpec : ChangeSpec := { name := "fnMapCracks", fn := fun _ => fun
  | [d] => { results := [.lit (.bool true)], args := [d] }
  | _ => none }
def fnMapCracksRow : OpenClaim := { program := "ytcepgfcolmdnoaa", sum := "4e16a973655d21395ec3bf4690875412e3370e62166363aec653f34b4e04539e", func := "loop.example/g01984/laws.FnMapCracks", spec := "fnMapCracks", inPlace := ["slices.overlaps[loop.example/g01984/impl.Pivot]"], unfollowed := true, recurses := true, apart := false }
def FnMapCracksSaid : Prop := fnMapCracksRow.holds Try.pinned (OpenSpec.ofChange fnMapCracksSpec)

/-- ITS FALSE NEIGHBOUR: 'it returns false'. Refute it at one input. -/
def fnMapCracksWrong : ChangeSpec := { name := "fnMapCracks", fn := fun _ => fun
  | [d] => { results := [.lit (.bool false)], args := [d] }
  | _ => none }
def FnMapCracksWrongFalsely : Prop := fnMapCracksRow.holds Try.pinned (OpenSpec.ofChange fnMapCracksWrong)

/-- 'laws.FnSelects': WHATEVER THE INPUT: true; the input reads as it did. -/
def fnSelectsSpec : ChangeSpec := { name := "fnSelects", fn := fun _ => fun
  | [d] => { results := [.lit (.bool true)], args := [d] }
  | _ => none }
def fnSelectsRow : OpenClaim := { program := "ytcepgfcolmdnoaa", sum := "4e16a973655d21395ec3bf4690875412e3370e62166363aec653f34b4e04539e", func := "loop.example/g01984/laws.FnSelects", spec := "fnSelects", inPlace := ["slices.overlaps[loop.example/g01984/impl.Pivot]"], unfollowed := true, recurses := true, apart := false }
def FnSelectsSaid : Prop := fnSelectsRow.holds Try.pinned (OpenSpec.ofChange fnSelectsSpec)

/-- ITS FALSE NEIGHBOUR: 'it returns false'. Refute it at one input. -/
def fnSelectsWrong : ChangeSpec := { name := "fnSelects", fn := fun _ => fun
  | [d] => { results := [.lit (.bool false)], args := [d] }
  | _ => none }
def FnSelectsWrongFalsely : Prop := fnSelectsRow.holds Try.pinned (OpenSpec.ofChange fnSelectsWrong)

/-- 'laws.FnUpdates': WHATEVER THE INPUT: true; the input reads as it did. -/
def fnUpdatesSpec : ChangeSpec := { name := "fnUpdates", fn := fun _ => fun
  | [d] => { results := [.lit (.bool true)], args := [d] }
  | _ => none }
def fnUpdatesRow : OpenClaim := { program := "ytcepgfcolmdnoaa", sum := "4e16a973655d21395ec3bf4690875412e3370e62166363aec653f34b4e04539e", func := "loop.example/g01984/laws.FnUpdates", spec := "fnUpdates", unfollowed := true, recurses := true, apart := false }
def FnUpdatesSaid : Prop := fnUpdatesRow.holds Try.pinned (OpenSpec.ofChange fnUpdatesSpec)

/-- ITS FALSE NEIGHBOUR: 'it returns false'. Refute it at one input. -/
def fnUpdatesWrong : ChangeSpec := { name := "fnUpdates", fn := fun _ => fun
  | [d] => { results := [.lit (.bool false)], args := [d] }
  | _ => none }
def FnUpdatesWrongFalsely : Prop := fnUpdatesRow.holds Try.pinned (OpenSpec.ofChange fnUpdatesWrong)

/-- 'laws.FnMaps': WHATEVER THE INPUT: true; the input reads as it did. -/
def fnMapsSpec : ChangeSpec := { name := "fnMaps", fn := fun _ => fun
  | [d] => { results := [.lit (.bool true)], args := [d] }
  | _ => none }
def fnMapsRow : OpenClaim := { program := "ytcepgfcolmdnoaa", sum := "4e16a973655d21395ec3bf4690875412e3370e62166363aec653f34b4e04539e", func := "loop.example/g01984/laws.FnMaps", spec := "fnMaps", inPlace := ["slices.overlaps[loop.example/g01984/impl.Pivot]"], unfollowed := true, recurses := true, apart := false }
def FnMapsSaid : Prop := fnMapsRow.holds Try.pinned (OpenSpec.ofChange fnMapsSpec)

/-- ITS FALSE NEIGHBOUR: 'it returns false'. Refute it at one input. -/
def fnMapsWrong : ChangeSpec := { name := "fnMaps", fn := fun _ => fun
  | [d] => { results := [.lit (.bool false)], args := [d] }
  | _ => none }
def FnMapsWrongFalsely : Prop := fnMapsRow.holds Try.pinned (OpenSpec.ofChange fnMapsWrong)

/-- 'laws.FnSmallest': WHATEVER THE INPUT: true; the input reads as it did. -/
def fnSmallestSpec : ChangeSpec := { name := "fnSmallest", fn := fun _ => fun
  | [d] => { results := [.lit (.bool true)], args := [d] }
  | _ => none }
def fnSmallestRow : OpenClaim := { program := "ytcepgfcolmdnoaa", sum := "4e16a973655d21395ec3bf4690875412e3370e62166363aec653f34b4e04539e", func := "loop.example/g01984/laws.FnSmallest", spec := "fnSmallest", inPlace := ["slices.overlaps[loop.example/g01984/impl.Pivot]"], unfollowed := true, recurses := true, apart := false }
def FnSmallestSaid : Prop := fnSmallestRow.holds Try.pinned (OpenSpec.ofChange fnSmallestSpec)

/-- ITS FALSE NEIGHBOUR: 'it returns false'. Refute it at one input. -/
def fnSmallestWrong : ChangeSpec := { name := "fnSmallest", fn := fun _ => fun
  | [d] => { results := [.lit (.bool false)], args := [d] }
  | _ => none }
def FnSmallestWrongFalsely : Prop := fnSmallestRow.holds Try.pinned (OpenSpec.ofChange fnSmallestWrong)

/-- 'laws.FnExactCrackWith': WHATEVER THE INPUT: true; the input reads as it did. -/
def fnExactCrackWithSpec : ChangeSpec := { name := "fnExactCrackWith", fn := fun _ => fun
  | [d1, d2, d3] => { results := [.lit (.bool true)], args := [d1, d2, d3] }
  | _ => none }
def fnExactCrackWithRow : OpenClaim := { program := "ytcepgfcolmdnoaa", sum := "4e16a973655d21395ec3bf4690875412e3370e62166363aec653f34b4e04539e", func := "loop.example/g01984/laws.FnExactCrackWith", spec := "fnExactCrackWith", inPlace := ["slices.overlaps[loop.example/g01984/impl.Pivot]"], unfollowed := true, recurses := true, apart := false }
def FnExactCrackWithSaid : Prop := fnExactCrackWithRow.holds Try.pinned (OpenSpec.ofChange fnExactCrackWithSpec)

/-- ITS FALSE NEIGHBOUR: 'it returns false'. Refute it at one input. -/
def fnExactCrackWithWrong : ChangeSpec := { name := "fnExactCrackWith", fn := fun _ => fun
  | [d1, d2, d3] => { results := [.lit (.bool false)], args := [d1, d2, d3] }
  | _ => none }
def FnExactCrackWithWrongFalsely : Prop := fnExactCrackWithRow.holds Try.pinned (OpenSpec.ofChange fnExactCrackWithWrong)

/-- 'laws.FnExactJoinRange': WHATEVER THE INPUT: true; the input reads as it did. -/
def fnExactJoinRangeSpec : ChangeSpec := { name := "fnExactJoinRange", fn := fun _ => fun
  | [d1, d2, d3] => { results := [.lit (.bool true)], args := [d1, d2, d3] }
  | _ => none }
def fnExactJoinRangeRow : OpenClaim := { program := "ytcepgfcolmdnoaa", sum := "4e16a973655d21395ec3bf4690875412e3370e62166363aec653f34b4e04539e", func := "loop.example/g01984/laws.FnExactJoinRange", spec := "fnExactJoinRange", inPlace := ["slices.overlaps[loop.example/g01984/impl.Pivot]"], unfollowed := true, recurses := true, apart := false }
def FnExactJoinRangeSaid : Prop := fnExactJoinRangeRow.holds Try.pinned (OpenSpec.ofChange fnExactJoinRangeSpec)

/-- ITS FALSE NEIGHBOUR: 'it returns false'. Refute it at one input. -/
def fnExactJoinRangeWrong : ChangeSpec := { name := "fnExactJoinRange", fn := fun _ => fun
  | [d1, d2, d3] => { results := [.lit (.bool false)], args := [d1, d2, d3] }
  | _ => none }
def FnExactJoinRangeWrongFalsely : Prop := fnExactJoinRangeRow.holds Try.pinned (OpenSpec.ofChange fnExactJoinRangeWrong)

/- THE SECOND FORM. 'bulk': how many values and letters a reading holds, each counted each time it is reached (what is shared counts as often as it is met; a slice's spare places count too). A statement '..UptoSaid' is the law's where the arguments, and the package variables that the reading takes, are together of bulk at most 1048576: NARROWER than '..Said'. Prove '..Said' where nothing that the law and all that it calls make is longer than what came in: it says more and counts as full. Else prove '..UptoSaid'. A law counts once. -/
mutual
def uptoBulk {H : Type} : DataW H → Nat
  | .lit (.string bytes) => bytes.length + 1
  | .lit _ => 1
  | .nil => 1
  | .ptr d => uptoBulk d + 1
  | .slice elems spare => uptoBulkAll elems + uptoBulkAll spare + 1
  | .agg parts => uptoBulkAll parts + 1
  | .iface _ d => uptoBulk d + 1
  | .map entries => uptoBulkEntries entries + 1
  | .held _ => 1
def uptoBulkAll {H : Type} : List (DataW H) → Nat
  | [] => 0
  | d :: r => uptoBulk d + uptoBulkAll r
def uptoBulkEntries {H : Type} : List (Lit × DataW H) → Nat
  | [] => 0
  | x :: r => uptoBulkEntry x + uptoBulkEntries r
def uptoBulkEntry {H : Type} : Lit × DataW H → Nat
  | (.string bytes, d) => bytes.length + uptoBulk d + 1
  | (_, d) => uptoBulk d + 1
 end
def uptoSmall : (H : Type) → List (DataW H) → Bool := fun _ ds => decide (uptoBulkAll ds ≤ 1048576)
def OpenSpec.upto (s : _root_.Go.ChangeSpec) : _root_.Go.OpenSpec := { _root_.Go.OpenSpec.ofChange s with cond := some uptoSmall }

/-- 'laws.FnMapCracks', WHERE WHAT IT READS IS OF BULK AT MOST 1048576: true; the input reads as it did. -/
def fnMapCracksUptoRow : OpenClaim := { program := "ytcepgfcolmdnoaa", sum := "4e16a973655d21395ec3bf4690875412e3370e62166363aec653f34b4e04539e", func := "loop.example/g01984/laws.FnMapCracks", spec := "fnMapCracks", inPlace := ["slices.overlaps[loop.example/g01984/impl.Pivot]"], unfollowed := true, recurses := true, apart := false, narrowed := true }
def FnMapCracksUptoSaid : Prop := fnMapCracksUptoRow.holds Try.pinned (OpenSpec.upto fnMapCracksSpec)

/-- 'laws.FnSelects', WHERE WHAT IT READS IS OF BULK AT MOST 1048576: true; the input reads as it did. -/
def fnSelectsUptoRow : OpenClaim := { program := "ytcepgfcolmdnoaa", sum := "4e16a973655d21395ec3bf4690875412e3370e62166363aec653f34b4e04539e", func := "loop.example/g01984/laws.FnSelects", spec := "fnSelects", inPlace := ["slices.overlaps[loop.example/g01984/impl.Pivot]"], unfollowed := true, recurses := true, apart := false, narrowed := true }
def FnSelectsUptoSaid : Prop := fnSelectsUptoRow.holds Try.pinned (OpenSpec.upto fnSelectsSpec)

/-- 'laws.FnUpdates', WHERE WHAT IT READS IS OF BULK AT MOST 1048576: true; the input reads as it did. -/
def fnUpdatesUptoRow : OpenClaim := { program := "ytcepgfcolmdnoaa", sum := "4e16a973655d21395ec3bf4690875412e3370e62166363aec653f34b4e04539e", func := "loop.example/g01984/laws.FnUpdates", spec := "fnUpdates", unfollowed := true, recurses := true, apart := false, narrowed := true }
def FnUpdatesUptoSaid : Prop := fnUpdatesUptoRow.holds Try.pinned (OpenSpec.upto fnUpdatesSpec)

/-- 'laws.FnMaps', WHERE WHAT IT READS IS OF BULK AT MOST 1048576: true; the input reads as it did. -/
def fnMapsUptoRow : OpenClaim := { program := "ytcepgfcolmdnoaa", sum := "4e16a973655d21395ec3bf4690875412e3370e62166363aec653f34b4e04539e", func := "loop.example/g01984/laws.FnMaps", spec := "fnMaps", inPlace := ["slices.overlaps[loop.example/g01984/impl.Pivot]"], unfollowed := true, recurses := true, apart := false, narrowed := true }
def FnMapsUptoSaid : Prop := fnMapsUptoRow.holds Try.pinned (OpenSpec.upto fnMapsSpec)

/-- 'laws.FnSmallest', WHERE WHAT IT READS IS OF BULK AT MOST 1048576: true; the input reads as it did. -/
def fnSmallestUptoRow : OpenClaim := { program := "ytcepgfcolmdnoaa", sum := "4e16a973655d21395ec3bf4690875412e3370e62166363aec653f34b4e04539e", func := "loop.example/g01984/laws.FnSmallest", spec := "fnSmallest", inPlace := ["slices.overlaps[loop.example/g01984/impl.Pivot]"], unfollowed := true, recurses := true, apart := false, narrowed := true }
def FnSmallestUptoSaid : Prop := fnSmallestUptoRow.holds Try.pinned (OpenSpec.upto fnSmallestSpec)

/-- 'laws.FnExactCrackWith', WHERE WHAT IT READS IS OF BULK AT MOST 1048576: true; the input reads as it did. -/
def fnExactCrackWithUptoRow : OpenClaim := { program := "ytcepgfcolmdnoaa", sum := "4e16a973655d21395ec3bf4690875412e3370e62166363aec653f34b4e04539e", func := "loop.example/g01984/laws.FnExactCrackWith", spec := "fnExactCrackWith", inPlace := ["slices.overlaps[loop.example/g01984/impl.Pivot]"], unfollowed := true, recurses := true, apart := false, narrowed := true }
def FnExactCrackWithUptoSaid : Prop := fnExactCrackWithUptoRow.holds Try.pinned (OpenSpec.upto fnExactCrackWithSpec)

/-- 'laws.FnExactJoinRange', WHERE WHAT IT READS IS OF BULK AT MOST 1048576: true; the input reads as it did. -/
def fnExactJoinRangeUptoRow : OpenClaim := { program := "ytcepgfcolmdnoaa", sum := "4e16a973655d21395ec3bf4690875412e3370e62166363aec653f34b4e04539e", func := "loop.example/g01984/laws.FnExactJoinRange", spec := "fnExactJoinRange", inPlace := ["slices.overlaps[loop.example/g01984/impl.Pivot]"], unfollowed := true, recurses := true, apart := false, narrowed := true }
def FnExactJoinRangeUptoSaid : Prop := fnExactJoinRangeUptoRow.holds Try.pinned (OpenSpec.upto fnExactJoinRangeSpec)

end Rows
end Go.Proofs.Ytcepgfcolmdnoaa
