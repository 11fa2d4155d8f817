/-
  No cell of these rows narrows 'for every input' (looked for: loops, veiled, ifaces, maps, wideKeys, modest, calm, conditions, laid).
  DERIVED. THE GIVEN ROWS OF THIS SEAT. 12 by the template 'for every input the law returns true; each argument reads behind the call as it read before'; 0 by the template 'total and deterministic' (their statements: YtkaikajjhhnifaaTotals.lean).
  GIVEN WITH THE SEED: the statements are not yours to turn. If you find one false, say at which input.
  Laid BY PROGRAM, IN A SANDBOX (cutbox-rows.mjs): the forced cells as the released guide's own fill.sh prints them over the translation cfd0a0efadca3be0… (all of the seat's roots in one cut). By AI agents, Wed Nov 11 2026. No macro, syntax, notation, axiom, sorry.
-/
import Derived.Test.YtkaikajjhhnifaaChecked
import GoSem.Claim
import GoSem.ClaimJoined
import GoSem.ClaimMapViews
import Derived.JoinedTies
import Derived.KernelRfl
namespace Go.Proofs.Ytkaikajjhhnifaa
/- THE CELL 'sum', in the pinned program and in every row, IS THE sha256 OF THE DUMP (.gsa) THAT YtkaikajjhhnifaaProg.lean LOADS. Nothing in Lean hashes anything: it is a label: what it is worth is what the hold of that sum in a sandbox is worth. -/
noncomputable def Try.pinned : Pinned := { name := "ytkaikajjhhnifaa", sum := "cfd0a0efadca3be0e5b5801848f2fe29d0b292a22286bbdb7fc94ba57c57749c", checked := Try.checked }
namespace Rows
def none {H : Type} : Left H := { results := [], args := [] }

/-- 'laws.FnExactPieceAggregates': WHATEVER THE INPUT: true; the input reads as it did. -/
def fnExactPieceAggregatesSpec : ChangeSpec := { name := "fnExactPieceAggregates", fn := fun _ => fun
  | [d] => { results := [.lit (.bool true)], args := [d] }
  | _ => none }
def fnExactPieceAggregatesRow : OpenClaim := { program := "ytkaikajjhhnifaa", sum := "cfd0a0efadca3be0e5b5801848f2fe29d0b292a22286bbdb7fc94ba57c57749c", func := "loop.example/g01984/laws.FnExactPieceAggregates", spec := "fnExactPieceAggregates", unfollowed := true, recurses := true, apart := false }
def FnExactPieceAggregatesSaid : Prop := fnExactPieceAggregatesRow.holds Try.pinned (OpenSpec.ofChange fnExactPieceAggregatesSpec)

/-- ITS FALSE NEIGHBOUR: 'it returns false'. Refute it at one input. -/
def fnExactPieceAggregatesWrong : ChangeSpec := { name := "fnExactPieceAggregates", fn := fun _ => fun
  | [d] => { results := [.lit (.bool false)], args := [d] }
  | _ => none }
def FnExactPieceAggregatesWrongFalsely : Prop := fnExactPieceAggregatesRow.holds Try.pinned (OpenSpec.ofChange fnExactPieceAggregatesWrong)

/-- 'laws.FnExactAddInsert': WHATEVER THE INPUT: true; the input reads as it did. -/
def fnExactAddInsertSpec : ChangeSpec := { name := "fnExactAddInsert", fn := fun _ => fun
  | [d1, d2, d3] => { results := [.lit (.bool true)], args := [d1, d2, d3] }
  | _ => none }
def fnExactAddInsertRow : OpenClaim := { program := "ytkaikajjhhnifaa", sum := "cfd0a0efadca3be0e5b5801848f2fe29d0b292a22286bbdb7fc94ba57c57749c", func := "loop.example/g01984/laws.FnExactAddInsert", spec := "fnExactAddInsert", unfollowed := true, recurses := true, apart := false }
def FnExactAddInsertSaid : Prop := fnExactAddInsertRow.holds Try.pinned (OpenSpec.ofChange fnExactAddInsertSpec)

/-- ITS FALSE NEIGHBOUR: 'it returns false'. Refute it at one input. -/
def fnExactAddInsertWrong : ChangeSpec := { name := "fnExactAddInsert", fn := fun _ => fun
  | [d1, d2, d3] => { results := [.lit (.bool false)], args := [d1, d2, d3] }
  | _ => none }
def FnExactAddInsertWrongFalsely : Prop := fnExactAddInsertRow.holds Try.pinned (OpenSpec.ofChange fnExactAddInsertWrong)

/-- 'laws.FnExactAddDelete': WHATEVER THE INPUT: true; the input reads as it did. -/
def fnExactAddDeleteSpec : ChangeSpec := { name := "fnExactAddDelete", fn := fun _ => fun
  | [d1, d2, d3] => { results := [.lit (.bool true)], args := [d1, d2, d3] }
  | _ => none }
def fnExactAddDeleteRow : OpenClaim := { program := "ytkaikajjhhnifaa", sum := "cfd0a0efadca3be0e5b5801848f2fe29d0b292a22286bbdb7fc94ba57c57749c", func := "loop.example/g01984/laws.FnExactAddDelete", spec := "fnExactAddDelete", unfollowed := true, recurses := true, apart := false }
def FnExactAddDeleteSaid : Prop := fnExactAddDeleteRow.holds Try.pinned (OpenSpec.ofChange fnExactAddDeleteSpec)

/-- ITS FALSE NEIGHBOUR: 'it returns false'. Refute it at one input. -/
def fnExactAddDeleteWrong : ChangeSpec := { name := "fnExactAddDelete", fn := fun _ => fun
  | [d1, d2, d3] => { results := [.lit (.bool false)], args := [d1, d2, d3] }
  | _ => none }
def FnExactAddDeleteWrongFalsely : Prop := fnExactAddDeleteRow.holds Try.pinned (OpenSpec.ofChange fnExactAddDeleteWrong)

/-- 'laws.FnExactSortTuples': WHATEVER THE INPUT: true; the input reads as it did. -/
def fnExactSortTuplesSpec : ChangeSpec := { name := "fnExactSortTuples", fn := fun _ => fun
  | [d] => { results := [.lit (.bool true)], args := [d] }
  | _ => none }
def fnExactSortTuplesRow : OpenClaim := { program := "ytkaikajjhhnifaa", sum := "cfd0a0efadca3be0e5b5801848f2fe29d0b292a22286bbdb7fc94ba57c57749c", func := "loop.example/g01984/laws.FnExactSortTuples", spec := "fnExactSortTuples", unfollowed := true, recurses := true, apart := false }
def FnExactSortTuplesSaid : Prop := fnExactSortTuplesRow.holds Try.pinned (OpenSpec.ofChange fnExactSortTuplesSpec)

/-- ITS FALSE NEIGHBOUR: 'it returns false'. Refute it at one input. -/
def fnExactSortTuplesWrong : ChangeSpec := { name := "fnExactSortTuples", fn := fun _ => fun
  | [d] => { results := [.lit (.bool false)], args := [d] }
  | _ => none }
def FnExactSortTuplesWrongFalsely : Prop := fnExactSortTuplesRow.holds Try.pinned (OpenSpec.ofChange fnExactSortTuplesWrong)

/-- 'laws.FnExactSameTuples': WHATEVER THE INPUT: true; the input reads as it did. -/
def fnExactSameTuplesSpec : ChangeSpec := { name := "fnExactSameTuples", fn := fun _ => fun
  | [d1, d2] => { results := [.lit (.bool true)], args := [d1, d2] }
  | _ => none }
def fnExactSameTuplesRow : OpenClaim := { program := "ytkaikajjhhnifaa", sum := "cfd0a0efadca3be0e5b5801848f2fe29d0b292a22286bbdb7fc94ba57c57749c", func := "loop.example/g01984/laws.FnExactSameTuples", spec := "fnExactSameTuples", unfollowed := true, recurses := true, apart := false }
def FnExactSameTuplesSaid : Prop := fnExactSameTuplesRow.holds Try.pinned (OpenSpec.ofChange fnExactSameTuplesSpec)

/-- ITS FALSE NEIGHBOUR: 'it returns false'. Refute it at one input. -/
def fnExactSameTuplesWrong : ChangeSpec := { name := "fnExactSameTuples", fn := fun _ => fun
  | [d1, d2] => { results := [.lit (.bool false)], args := [d1, d2] }
  | _ => none }
def FnExactSameTuplesWrongFalsely : Prop := fnExactSameTuplesRow.holds Try.pinned (OpenSpec.ofChange fnExactSameTuplesWrong)

/-- 'laws.FnCracks': WHATEVER THE INPUT: true; the input reads as it did. -/
def fnCracksSpec : ChangeSpec := { name := "fnCracks", fn := fun _ => fun
  | [d] => { results := [.lit (.bool true)], args := [d] }
  | _ => none }
def fnCracksRow : OpenClaim := { program := "ytkaikajjhhnifaa", sum := "cfd0a0efadca3be0e5b5801848f2fe29d0b292a22286bbdb7fc94ba57c57749c", func := "loop.example/g01984/laws.FnCracks", spec := "fnCracks", inPlace := ["slices.overlaps[loop.example/g01984/impl.Pivot]"], unfollowed := true, recurses := true, apart := false }
def FnCracksSaid : Prop := fnCracksRow.holds Try.pinned (OpenSpec.ofChange fnCracksSpec)

/-- ITS FALSE NEIGHBOUR: 'it returns false'. Refute it at one input. -/
def fnCracksWrong : ChangeSpec := { name := "fnCracks", fn := fun _ => fun
  | [d] => { results := [.lit (.bool false)], args := [d] }
  | _ => none }
def FnCracksWrongFalsely : Prop := fnCracksRow.holds Try.pinned (OpenSpec.ofChange fnCracksWrong)

/-- 'laws.FnExactSelectRange': WHATEVER THE INPUT: true; the input reads as it did. -/
def fnExactSelectRangeSpec : ChangeSpec := { name := "fnExactSelectRange", fn := fun _ => fun
  | [d1, d2] => { results := [.lit (.bool true)], args := [d1, d2] }
  | _ => none }
def fnExactSelectRangeRow : OpenClaim := { program := "ytkaikajjhhnifaa", sum := "cfd0a0efadca3be0e5b5801848f2fe29d0b292a22286bbdb7fc94ba57c57749c", func := "loop.example/g01984/laws.FnExactSelectRange", spec := "fnExactSelectRange", inPlace := ["slices.overlaps[loop.example/g01984/impl.Pivot]"], unfollowed := true, recurses := true, apart := false }
def FnExactSelectRangeSaid : Prop := fnExactSelectRangeRow.holds Try.pinned (OpenSpec.ofChange fnExactSelectRangeSpec)

/-- ITS FALSE NEIGHBOUR: 'it returns false'. Refute it at one input. -/
def fnExactSelectRangeWrong : ChangeSpec := { name := "fnExactSelectRange", fn := fun _ => fun
  | [d1, d2] => { results := [.lit (.bool false)], args := [d1, d2] }
  | _ => none }
def FnExactSelectRangeWrongFalsely : Prop := fnExactSelectRangeRow.holds Try.pinned (OpenSpec.ofChange fnExactSelectRangeWrong)

/-- 'laws.FnExactReplayLedger': WHATEVER THE INPUT: true; the input reads as it did. -/
def fnExactReplayLedgerSpec : ChangeSpec := { name := "fnExactReplayLedger", fn := fun _ => fun
  | [d1, d2] => { results := [.lit (.bool true)], args := [d1, d2] }
  | _ => none }
def fnExactReplayLedgerRow : OpenClaim := { program := "ytkaikajjhhnifaa", sum := "cfd0a0efadca3be0e5b5801848f2fe29d0b292a22286bbdb7fc94ba57c57749c", func := "loop.example/g01984/laws.FnExactReplayLedger", spec := "fnExactReplayLedger", inPlace := ["slices.overlaps[loop.example/g01984/impl.Pivot]"], unfollowed := true, recurses := true, apart := false }
def FnExactReplayLedgerSaid : Prop := fnExactReplayLedgerRow.holds Try.pinned (OpenSpec.ofChange fnExactReplayLedgerSpec)

/-- ITS FALSE NEIGHBOUR: 'it returns false'. Refute it at one input. -/
def fnExactReplayLedgerWrong : ChangeSpec := { name := "fnExactReplayLedger", fn := fun _ => fun
  | [d1, d2] => { results := [.lit (.bool false)], args := [d1, d2] }
  | _ => none }
def FnExactReplayLedgerWrongFalsely : Prop := fnExactReplayLedgerRow.holds Try.pinned (OpenSpec.ofChange fnExactReplayLedgerWrong)

/-- 'laws.FnExactCrackAt': WHATEVER THE INPUT: true; the input reads as it did. -/
def fnExactCrackAtSpec : ChangeSpec := { name := "fnExactCrackAt", fn := fun _ => fun
  | [d1, d2] => { results := [.lit (.bool true)], args := [d1, d2] }
  | _ => none }
def fnExactCrackAtRow : OpenClaim := { program := "ytkaikajjhhnifaa", sum := "cfd0a0efadca3be0e5b5801848f2fe29d0b292a22286bbdb7fc94ba57c57749c", func := "loop.example/g01984/laws.FnExactCrackAt", spec := "fnExactCrackAt", inPlace := ["slices.overlaps[loop.example/g01984/impl.Pivot]"], unfollowed := true, recurses := true, apart := false }
def FnExactCrackAtSaid : Prop := fnExactCrackAtRow.holds Try.pinned (OpenSpec.ofChange fnExactCrackAtSpec)

/-- ITS FALSE NEIGHBOUR: 'it returns false'. Refute it at one input. -/
def fnExactCrackAtWrong : ChangeSpec := { name := "fnExactCrackAt", fn := fun _ => fun
  | [d1, d2] => { results := [.lit (.bool false)], args := [d1, d2] }
  | _ => none }
def FnExactCrackAtWrongFalsely : Prop := fnExactCrackAtRow.holds Try.pinned (OpenSpec.ofChange fnExactCrackAtWrong)

/-- 'laws.FnExactLiveRows': WHATEVER THE INPUT: true; the input reads as it did. -/
def fnExactLiveRowsSpec : ChangeSpec := { name := "fnExactLiveRows", fn := fun _ => fun
  | [d1, d2, d3] => { results := [.lit (.bool true)], args := [d1, d2, d3] }
  | _ => none }
def fnExactLiveRowsRow : OpenClaim := { program := "ytkaikajjhhnifaa", sum := "cfd0a0efadca3be0e5b5801848f2fe29d0b292a22286bbdb7fc94ba57c57749c", func := "loop.example/g01984/laws.FnExactLiveRows", spec := "fnExactLiveRows", unfollowed := true, recurses := true, apart := false }
def FnExactLiveRowsSaid : Prop := fnExactLiveRowsRow.holds Try.pinned (OpenSpec.ofChange fnExactLiveRowsSpec)

/-- ITS FALSE NEIGHBOUR: 'it returns false'. Refute it at one input. -/
def fnExactLiveRowsWrong : ChangeSpec := { name := "fnExactLiveRows", fn := fun _ => fun
  | [d1, d2, d3] => { results := [.lit (.bool false)], args := [d1, d2, d3] }
  | _ => none }
def FnExactLiveRowsWrongFalsely : Prop := fnExactLiveRowsRow.holds Try.pinned (OpenSpec.ofChange fnExactLiveRowsWrong)

/-- 'laws.FnExactMergeRange': WHATEVER THE INPUT: true; the input reads as it did. -/
def fnExactMergeRangeSpec : ChangeSpec := { name := "fnExactMergeRange", fn := fun _ => fun
  | [d1, d2, d3] => { results := [.lit (.bool true)], args := [d1, d2, d3] }
  | _ => none }
def fnExactMergeRangeRow : OpenClaim := { program := "ytkaikajjhhnifaa", sum := "cfd0a0efadca3be0e5b5801848f2fe29d0b292a22286bbdb7fc94ba57c57749c", func := "loop.example/g01984/laws.FnExactMergeRange", spec := "fnExactMergeRange", unfollowed := true, recurses := true, apart := false }
def FnExactMergeRangeSaid : Prop := fnExactMergeRangeRow.holds Try.pinned (OpenSpec.ofChange fnExactMergeRangeSpec)

/-- ITS FALSE NEIGHBOUR: 'it returns false'. Refute it at one input. -/
def fnExactMergeRangeWrong : ChangeSpec := { name := "fnExactMergeRange", fn := fun _ => fun
  | [d1, d2, d3] => { results := [.lit (.bool false)], args := [d1, d2, d3] }
  | _ => none }
def FnExactMergeRangeWrongFalsely : Prop := fnExactMergeRangeRow.holds Try.pinned (OpenSpec.ofChange fnExactMergeRangeWrong)

/-- 'laws.FnExactAnswerRange': WHATEVER THE INPUT: true; the input reads as it did. -/
def fnExactAnswerRangeSpec : ChangeSpec := { name := "fnExactAnswerRange", fn := fun _ => fun
  | [d1, d2] => { results := [.lit (.bool true)], args := [d1, d2] }
  | _ => none }
def fnExactAnswerRangeRow : OpenClaim := { program := "ytkaikajjhhnifaa", sum := "cfd0a0efadca3be0e5b5801848f2fe29d0b292a22286bbdb7fc94ba57c57749c", func := "loop.example/g01984/laws.FnExactAnswerRange", spec := "fnExactAnswerRange", inPlace := ["slices.overlaps[loop.example/g01984/impl.Pivot]"], unfollowed := true, recurses := true, apart := false }
def FnExactAnswerRangeSaid : Prop := fnExactAnswerRangeRow.holds Try.pinned (OpenSpec.ofChange fnExactAnswerRangeSpec)

/-- ITS FALSE NEIGHBOUR: 'it returns false'. Refute it at one input. -/
def fnExactAnswerRangeWrong : ChangeSpec := { name := "fnExactAnswerRange", fn := fun _ => fun
  | [d1, d2] => { results := [.lit (.bool false)], args := [d1, d2] }
  | _ => none }
def FnExactAnswerRangeWrongFalsely : Prop := fnExactAnswerRangeRow.holds Try.pinned (OpenSpec.ofChange fnExactAnswerRangeWrong)

/- THE SECOND FORM. 'bulk': how many values and letters a reading holds, each counted each time it is reached (what is shared counts as often as it is met; a slice's spare places count too). A statement '..UptoSaid' is the law's where the arguments, and the package variables that the reading takes, are together of bulk at most 1048576: NARROWER than '..Said'. Prove '..Said' where nothing that the law and all that it calls make is longer than what came in: it says more and counts as full. Else prove '..UptoSaid'. A law counts once. -/
mutual
def uptoBulk {H : Type} : DataW H → Nat
  | .lit (.string bytes) => bytes.length + 1
  | .lit _ => 1
  | .nil => 1
  | .ptr d => uptoBulk d + 1
  | .slice elems spare => uptoBulkAll elems + uptoBulkAll spare + 1
  | .agg parts => uptoBulkAll parts + 1
  | .iface _ d => uptoBulk d + 1
  | .map entries => uptoBulkEntries entries + 1
  | .held _ => 1
def uptoBulkAll {H : Type} : List (DataW H) → Nat
  | [] => 0
  | d :: r => uptoBulk d + uptoBulkAll r
def uptoBulkEntries {H : Type} : List (Lit × DataW H) → Nat
  | [] => 0
  | x :: r => uptoBulkEntry x + uptoBulkEntries r
def uptoBulkEntry {H : Type} : Lit × DataW H → Nat
  | (.string bytes, d) => bytes.length + uptoBulk d + 1
  | (_, d) => uptoBulk d + 1
 end
def uptoSmall : (H : Type) → List (DataW H) → Bool := fun _ ds => decide (uptoBulkAll ds ≤ 1048576)
def OpenSpec.upto (s : _root_.Go.ChangeSpec) : _root_.Go.OpenSpec := { _root_.Go.OpenSpec.ofChange s with cond := some uptoSmall }

/-- 'laws.FnExactPieceAggregates', WHERE WHAT IT READS IS OF BULK AT MOST 1048576: true; the input reads as it did. -/
def fnExactPieceAggregatesUptoRow : OpenClaim := { program := "ytkaikajjhhnifaa", sum := "cfd0a0efadca3be0e5b5801848f2fe29d0b292a22286bbdb7fc94ba57c57749c", func := "loop.example/g01984/laws.FnExactPieceAggregates", spec := "fnExactPieceAggregates", unfollowed := true, recurses := true, apart := false, narrowed := true }
def FnExactPieceAggregatesUptoSaid : Prop := fnExactPieceAggregatesUptoRow.holds Try.pinned (OpenSpec.upto fnExactPieceAggregatesSpec)

/-- 'laws.FnExactAddInsert', WHERE WHAT IT READS IS OF BULK AT MOST 1048576: true; the input reads as it did. -/
def fnExactAddInsertUptoRow : OpenClaim := { program := "ytkaikajjhhnifaa", sum := "cfd0a0efadca3be0e5b5801848f2fe29d0b292a22286bbdb7fc94ba57c57749c", func := "loop.example/g01984/laws.FnExactAddInsert", spec := "fnExactAddInsert", unfollowed := true, recurses := true, apart := false, narrowed := true }
def FnExactAddInsertUptoSaid : Prop := fnExactAddInsertUptoRow.holds Try.pinned (OpenSpec.upto fnExactAddInsertSpec)

/-- 'laws.FnExactAddDelete', WHERE WHAT IT READS IS OF BULK AT MOST 1048576: true; the input reads as it did. -/
def fnExactAddDeleteUptoRow : OpenClaim := { program := "ytkaikajjhhnifaa", sum := "cfd0a0efadca3be0e5b5801848f2fe29d0b292a22286bbdb7fc94ba57c57749c", func := "loop.example/g01984/laws.FnExactAddDelete", spec := "fnExactAddDelete", unfollowed := true, recurses := true, apart := false, narrowed := true }
def FnExactAddDeleteUptoSaid : Prop := fnExactAddDeleteUptoRow.holds Try.pinned (OpenSpec.upto fnExactAddDeleteSpec)

/-- 'laws.FnExactSortTuples', WHERE WHAT IT READS IS OF BULK AT MOST 1048576: true; the input reads as it did. -/
def fnExactSortTuplesUptoRow : OpenClaim := { program := "ytkaikajjhhnifaa", sum := "cfd0a0efadca3be0e5b5801848f2fe29d0b292a22286bbdb7fc94ba57c57749c", func := "loop.example/g01984/laws.FnExactSortTuples", spec := "fnExactSortTuples", unfollowed := true, recurses := true, apart := false, narrowed := true }
def FnExactSortTuplesUptoSaid : Prop := fnExactSortTuplesUptoRow.holds Try.pinned (OpenSpec.upto fnExactSortTuplesSpec)

/-- 'laws.FnExactSameTuples', WHERE WHAT IT READS IS OF BULK AT MOST 1048576: true; the input reads as it did. -/
def fnExactSameTuplesUptoRow : OpenClaim := { program := "ytkaikajjhhnifaa", sum := "cfd0a0efadca3be0e5b5801848f2fe29d0b292a22286bbdb7fc94ba57c57749c", func := "loop.example/g01984/laws.FnExactSameTuples", spec := "fnExactSameTuples", unfollowed := true, recurses := true, apart := false, narrowed := true }
def FnExactSameTuplesUptoSaid : Prop := fnExactSameTuplesUptoRow.holds Try.pinned (OpenSpec.upto fnExactSameTuplesSpec)

/-- 'laws.FnCracks', WHERE WHAT IT READS IS OF BULK AT MOST 1048576: true; the input reads as it did. -/
def fnCracksUptoRow : OpenClaim := { program := "ytkaikajjhhnifaa", sum := "cfd0a0efadca3be0e5b5801848f2fe29d0b292a22286bbdb7fc94ba57c57749c", func := "loop.example/g01984/laws.FnCracks", spec := "fnCracks", inPlace := ["slices.overlaps[loop.example/g01984/impl.Pivot]"], unfollowed := true, recurses := true, apart := false, narrowed := true }
def FnCracksUptoSaid : Prop := fnCracksUptoRow.holds Try.pinned (OpenSpec.upto fnCracksSpec)

/-- 'laws.FnExactSelectRange', WHERE WHAT IT READS IS OF BULK AT MOST 1048576: true; the input reads as it did. -/
def fnExactSelectRangeUptoRow : OpenClaim := { program := "ytkaikajjhhnifaa", sum := "cfd0a0efadca3be0e5b5801848f2fe29d0b292a22286bbdb7fc94ba57c57749c", func := "loop.example/g01984/laws.FnExactSelectRange", spec := "fnExactSelectRange", inPlace := ["slices.overlaps[loop.example/g01984/impl.Pivot]"], unfollowed := true, recurses := true, apart := false, narrowed := true }
def FnExactSelectRangeUptoSaid : Prop := fnExactSelectRangeUptoRow.holds Try.pinned (OpenSpec.upto fnExactSelectRangeSpec)

/-- 'laws.FnExactReplayLedger', WHERE WHAT IT READS IS OF BULK AT MOST 1048576: true; the input reads as it did. -/
def fnExactReplayLedgerUptoRow : OpenClaim := { program := "ytkaikajjhhnifaa", sum := "cfd0a0efadca3be0e5b5801848f2fe29d0b292a22286bbdb7fc94ba57c57749c", func := "loop.example/g01984/laws.FnExactReplayLedger", spec := "fnExactReplayLedger", inPlace := ["slices.overlaps[loop.example/g01984/impl.Pivot]"], unfollowed := true, recurses := true, apart := false, narrowed := true }
def FnExactReplayLedgerUptoSaid : Prop := fnExactReplayLedgerUptoRow.holds Try.pinned (OpenSpec.upto fnExactReplayLedgerSpec)

/-- 'laws.FnExactCrackAt', WHERE WHAT IT READS IS OF BULK AT MOST 1048576: true; the input reads as it did. -/
def fnExactCrackAtUptoRow : OpenClaim := { program := "ytkaikajjhhnifaa", sum := "cfd0a0efadca3be0e5b5801848f2fe29d0b292a22286bbdb7fc94ba57c57749c", func := "loop.example/g01984/laws.FnExactCrackAt", spec := "fnExactCrackAt", inPlace := ["slices.overlaps[loop.example/g01984/impl.Pivot]"], unfollowed := true, recurses := true, apart := false, narrowed := true }
def FnExactCrackAtUptoSaid : Prop := fnExactCrackAtUptoRow.holds Try.pinned (OpenSpec.upto fnExactCrackAtSpec)

/-- 'laws.FnExactLiveRows', WHERE WHAT IT READS IS OF BULK AT MOST 1048576: true; the input reads as it did. -/
def fnExactLiveRowsUptoRow : OpenClaim := { program := "ytkaikajjhhnifaa", sum := "cfd0a0efadca3be0e5b5801848f2fe29d0b292a22286bbdb7fc94ba57c57749c", func := "loop.example/g01984/laws.FnExactLiveRows", spec := "fnExactLiveRows", unfollowed := true, recurses := true, apart := false, narrowed := true }
def FnExactLiveRowsUptoSaid : Prop := fnExactLiveRowsUptoRow.holds Try.pinned (OpenSpec.upto fnExactLiveRowsSpec)

/-- 'laws.FnExactMergeRange', WHERE WHAT IT READS IS OF BULK AT MOST 1048576: true; the input reads as it did. -/
def fnExactMergeRangeUptoRow : OpenClaim := { program := "ytkaikajjhhnifaa", sum := "cfd0a0efadca3be0e5b5801848f2fe29d0b292a22286bbdb7fc94ba57c57749c", func := "loop.example/g01984/laws.FnExactMergeRange", spec := "fnExactMergeRange", unfollowed := true, recurses := true, apart := false, narrowed := true }
def FnExactMergeRangeUptoSaid : Prop := fnExactMergeRangeUptoRow.holds Try.pinned (OpenSpec.upto fnExactMergeRangeSpec)

/-- 'laws.FnExactAnswerRange', WHERE WHAT IT READS IS OF BULK AT MOST 1048576: true; the input reads as it did. -/
def fnExactAnswerRangeUptoRow : OpenClaim := { program := "ytkaikajjhhnifaa", sum := "cfd0a0efadca3be0e5b5801848f2fe29d0b292a22286bbdb7fc94ba57c57749c", func := "loop.example/g01984/laws.FnExactAnswerRange", spec := "fnExactAnswerRange", inPlace := ["slices.overlaps[loop.example/g01984/impl.Pivot]"], unfollowed := true, recurses := true, apart := false, narrowed := true }
def FnExactAnswerRangeUptoSaid : Prop := fnExactAnswerRangeUptoRow.holds Try.pinned (OpenSpec.upto fnExactAnswerRangeSpec)

end Rows
end Go.Proofs.Ytkaikajjhhnifaa
