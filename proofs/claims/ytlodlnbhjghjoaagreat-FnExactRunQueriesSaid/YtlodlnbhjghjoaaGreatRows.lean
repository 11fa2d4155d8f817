/-
  No cell of these rows narrows 'for every input' (looked for: loops, veiled, ifaces, maps, wideKeys, modest, calm, conditions, laid).
  DERIVED. THE GIVEN ROWS OF THIS SEAT. 9 by the template 'for every input the law returns true; each argument reads behind the call as it read before'; 0 by the template 'total and deterministic' (their statements: YtlodlnbhjghjoaaGreatTotals.lean).
  GIVEN WITH THE SEED: the statements are not yours to turn. If you find one false, say at which input.
  Laid BY PROGRAM, IN A SANDBOX (cutbox-rows.mjs): the forced cells as the released guide's own fill.sh prints them over the translation a35b1c290035ebfc… (all of the seat's roots in one cut). By AI agents, Wed Nov 11 2026. No macro, syntax, notation, axiom, sorry.
-/
import Derived.Test.YtlodlnbhjghjoaaGreatChecked
import GoSem.Claim
import GoSem.ClaimJoined
import GoSem.ClaimMapViews
import Derived.JoinedTies
import Derived.KernelRfl
namespace Go.Proofs.YtlodlnbhjghjoaaGreat
/- THE CELL 'sum', in the pinned program and in every row, IS THE sha256 OF THE DUMP (.gsa) THAT YtlodlnbhjghjoaaGreatProg.lean LOADS. Nothing in Lean hashes anything: it is a label: what it is worth is what the hold of that sum in a sandbox is worth. -/
noncomputable def Tryz.pinned : Pinned := { name := "ytlodlnbhjghjoaagreat", sum := "a35b1c290035ebfcef018d1ea16e574f45cd98787b65bd0818e8f16c358d6cda", checked := Tryz.checked }
namespace Rows
def none {H : Type} : Left H := { results := [], args := [] }

/-- 'laws.FnExactLedgerOf': WHATEVER THE INPUT: true; the input reads as it did. -/
def fnExactLedgerOfSpec : ChangeSpec := { name := "fnExactLedgerOf", fn := fun _ => fun
  | [d1, d2, d3] => { results := [.lit (.bool true)], args := [d1, d2, d3] }
  | _ => none }
def fnExactLedgerOfRow : OpenClaim := { program := "ytlodlnbhjghjoaagreat", sum := "a35b1c290035ebfcef018d1ea16e574f45cd98787b65bd0818e8f16c358d6cda", func := "loop.example/g01984/laws.FnExactLedgerOf", spec := "fnExactLedgerOf", inPlace := ["slices.overlaps[loop.example/g01984/impl.Pivot]"], unfollowed := true, recurses := true, apart := false }
def FnExactLedgerOfSaid : Prop := fnExactLedgerOfRow.holds Tryz.pinned (OpenSpec.ofChange fnExactLedgerOfSpec)

/-- ITS FALSE NEIGHBOUR: 'it returns false'. Refute it at one input. -/
def fnExactLedgerOfWrong : ChangeSpec := { name := "fnExactLedgerOf", fn := fun _ => fun
  | [d1, d2, d3] => { results := [.lit (.bool false)], args := [d1, d2, d3] }
  | _ => none }
def FnExactLedgerOfWrongFalsely : Prop := fnExactLedgerOfRow.holds Tryz.pinned (OpenSpec.ofChange fnExactLedgerOfWrong)

/-- 'laws.FnExactSelectWith': WHATEVER THE INPUT: true; the input reads as it did. -/
def fnExactSelectWithSpec : ChangeSpec := { name := "fnExactSelectWith", fn := fun _ => fun
  | [d1, d2, d3] => { results := [.lit (.bool true)], args := [d1, d2, d3] }
  | _ => none }
def fnExactSelectWithRow : OpenClaim := { program := "ytlodlnbhjghjoaagreat", sum := "a35b1c290035ebfcef018d1ea16e574f45cd98787b65bd0818e8f16c358d6cda", func := "loop.example/g01984/laws.FnExactSelectWith", spec := "fnExactSelectWith", inPlace := ["slices.overlaps[loop.example/g01984/impl.Pivot]"], unfollowed := true, recurses := true, apart := false }
def FnExactSelectWithSaid : Prop := fnExactSelectWithRow.holds Tryz.pinned (OpenSpec.ofChange fnExactSelectWithSpec)

/-- ITS FALSE NEIGHBOUR: 'it returns false'. Refute it at one input. -/
def fnExactSelectWithWrong : ChangeSpec := { name := "fnExactSelectWith", fn := fun _ => fun
  | [d1, d2, d3] => { results := [.lit (.bool false)], args := [d1, d2, d3] }
  | _ => none }
def FnExactSelectWithWrongFalsely : Prop := fnExactSelectWithRow.holds Tryz.pinned (OpenSpec.ofChange fnExactSelectWithWrong)

/-- 'laws.FnPolicies': WHATEVER THE INPUT: true; the input reads as it did. -/
def fnPoliciesSpec : ChangeSpec := { name := "fnPolicies", fn := fun _ => fun
  | [d] => { results := [.lit (.bool true)], args := [d] }
  | _ => none }
def fnPoliciesRow : OpenClaim := { program := "ytlodlnbhjghjoaagreat", sum := "a35b1c290035ebfcef018d1ea16e574f45cd98787b65bd0818e8f16c358d6cda", func := "loop.example/g01984/laws.FnPolicies", spec := "fnPolicies", inPlace := ["slices.overlaps[loop.example/g01984/impl.Pivot]"], unfollowed := true, recurses := true, apart := false }
def FnPoliciesSaid : Prop := fnPoliciesRow.holds Tryz.pinned (OpenSpec.ofChange fnPoliciesSpec)

/-- ITS FALSE NEIGHBOUR: 'it returns false'. Refute it at one input. -/
def fnPoliciesWrong : ChangeSpec := { name := "fnPolicies", fn := fun _ => fun
  | [d] => { results := [.lit (.bool false)], args := [d] }
  | _ => none }
def FnPoliciesWrongFalsely : Prop := fnPoliciesRow.holds Tryz.pinned (OpenSpec.ofChange fnPoliciesWrong)

/-- 'laws.FnExactIsWithinBound': WHATEVER THE INPUT: true; the input reads as it did. -/
def fnExactIsWithinBoundSpec : ChangeSpec := { name := "fnExactIsWithinBound", fn := fun _ => fun
  | [d1, d2, d3] => { results := [.lit (.bool true)], args := [d1, d2, d3] }
  | _ => none }
def fnExactIsWithinBoundRow : OpenClaim := { program := "ytlodlnbhjghjoaagreat", sum := "a35b1c290035ebfcef018d1ea16e574f45cd98787b65bd0818e8f16c358d6cda", func := "loop.example/g01984/laws.FnExactIsWithinBound", spec := "fnExactIsWithinBound", inPlace := ["slices.overlaps[loop.example/g01984/impl.Pivot]"], unfollowed := true, recurses := true, apart := false }
def FnExactIsWithinBoundSaid : Prop := fnExactIsWithinBoundRow.holds Tryz.pinned (OpenSpec.ofChange fnExactIsWithinBoundSpec)

/-- ITS FALSE NEIGHBOUR: 'it returns false'. Refute it at one input. -/
def fnExactIsWithinBoundWrong : ChangeSpec := { name := "fnExactIsWithinBound", fn := fun _ => fun
  | [d1, d2, d3] => { results := [.lit (.bool false)], args := [d1, d2, d3] }
  | _ => none }
def FnExactIsWithinBoundWrongFalsely : Prop := fnExactIsWithinBoundRow.holds Tryz.pinned (OpenSpec.ofChange fnExactIsWithinBoundWrong)

/-- 'laws.FnExactRunQueries': WHATEVER THE INPUT: true; the input reads as it did. -/
def fnExactRunQueriesSpec : ChangeSpec := { name := "fnExactRunQueries", fn := fun _ => fun
  | [d1, d2, d3] => { results := [.lit (.bool true)], args := [d1, d2, d3] }
  | _ => none }
def fnExactRunQueriesRow : OpenClaim := { program := "ytlodlnbhjghjoaagreat", sum := "a35b1c290035ebfcef018d1ea16e574f45cd98787b65bd0818e8f16c358d6cda", func := "loop.example/g01984/laws.FnExactRunQueries", spec := "fnExactRunQueries", inPlace := ["slices.overlaps[loop.example/g01984/impl.Pivot]"], unfollowed := true, recurses := true, apart := false }
def FnExactRunQueriesSaid : Prop := fnExactRunQueriesRow.holds Tryz.pinned (OpenSpec.ofChange fnExactRunQueriesSpec)

/-- ITS FALSE NEIGHBOUR: 'it returns false'. Refute it at one input. -/
def fnExactRunQueriesWrong : ChangeSpec := { name := "fnExactRunQueries", fn := fun _ => fun
  | [d1, d2, d3] => { results := [.lit (.bool false)], args := [d1, d2, d3] }
  | _ => none }
def FnExactRunQueriesWrongFalsely : Prop := fnExactRunQueriesRow.holds Tryz.pinned (OpenSpec.ofChange fnExactRunQueriesWrong)

/-- 'laws.FnTop': WHATEVER THE INPUT: true; the input reads as it did. -/
def fnTopSpec : ChangeSpec := { name := "fnTop", fn := fun _ => fun
  | [d] => { results := [.lit (.bool true)], args := [d] }
  | _ => none }
def fnTopRow : OpenClaim := { program := "ytlodlnbhjghjoaagreat", sum := "a35b1c290035ebfcef018d1ea16e574f45cd98787b65bd0818e8f16c358d6cda", func := "loop.example/g01984/laws.FnTop", spec := "fnTop", inPlace := ["slices.overlaps[loop.example/g01984/impl.Pivot]"], unfollowed := true, recurses := true, apart := false }
def FnTopSaid : Prop := fnTopRow.holds Tryz.pinned (OpenSpec.ofChange fnTopSpec)

/-- ITS FALSE NEIGHBOUR: 'it returns false'. Refute it at one input. -/
def fnTopWrong : ChangeSpec := { name := "fnTop", fn := fun _ => fun
  | [d] => { results := [.lit (.bool false)], args := [d] }
  | _ => none }
def FnTopWrongFalsely : Prop := fnTopRow.holds Tryz.pinned (OpenSpec.ofChange fnTopWrong)

/-- 'laws.FnExactSelectFresh': WHATEVER THE INPUT: true; the input reads as it did. -/
def fnExactSelectFreshSpec : ChangeSpec := { name := "fnExactSelectFresh", fn := fun _ => fun
  | [d1, d2, d3] => { results := [.lit (.bool true)], args := [d1, d2, d3] }
  | _ => none }
def fnExactSelectFreshRow : OpenClaim := { program := "ytlodlnbhjghjoaagreat", sum := "a35b1c290035ebfcef018d1ea16e574f45cd98787b65bd0818e8f16c358d6cda", func := "loop.example/g01984/laws.FnExactSelectFresh", spec := "fnExactSelectFresh", inPlace := ["slices.overlaps[loop.example/g01984/impl.Pivot]"], unfollowed := true, recurses := true, apart := false }
def FnExactSelectFreshSaid : Prop := fnExactSelectFreshRow.holds Tryz.pinned (OpenSpec.ofChange fnExactSelectFreshSpec)

/-- ITS FALSE NEIGHBOUR: 'it returns false'. Refute it at one input. -/
def fnExactSelectFreshWrong : ChangeSpec := { name := "fnExactSelectFresh", fn := fun _ => fun
  | [d1, d2, d3] => { results := [.lit (.bool false)], args := [d1, d2, d3] }
  | _ => none }
def FnExactSelectFreshWrongFalsely : Prop := fnExactSelectFreshRow.holds Tryz.pinned (OpenSpec.ofChange fnExactSelectFreshWrong)

/-- 'laws.FnPending': WHATEVER THE INPUT: true; the input reads as it did. -/
def fnPendingSpec : ChangeSpec := { name := "fnPending", fn := fun _ => fun
  | [d] => { results := [.lit (.bool true)], args := [d] }
  | _ => none }
def fnPendingRow : OpenClaim := { program := "ytlodlnbhjghjoaagreat", sum := "a35b1c290035ebfcef018d1ea16e574f45cd98787b65bd0818e8f16c358d6cda", func := "loop.example/g01984/laws.FnPending", spec := "fnPending", inPlace := ["slices.overlaps[loop.example/g01984/impl.Pivot]"], unfollowed := true, recurses := true, apart := false }
def FnPendingSaid : Prop := fnPendingRow.holds Tryz.pinned (OpenSpec.ofChange fnPendingSpec)

/-- ITS FALSE NEIGHBOUR: 'it returns false'. Refute it at one input. -/
def fnPendingWrong : ChangeSpec := { name := "fnPending", fn := fun _ => fun
  | [d] => { results := [.lit (.bool false)], args := [d] }
  | _ => none }
def FnPendingWrongFalsely : Prop := fnPendingRow.holds Tryz.pinned (OpenSpec.ofChange fnPendingWrong)

/-- 'laws.FnSorts': WHATEVER THE INPUT: true; the input reads as it did. -/
def fnSortsSpec : ChangeSpec := { name := "fnSorts", fn := fun _ => fun
  | [d] => { results := [.lit (.bool true)], args := [d] }
  | _ => none }
def fnSortsRow : OpenClaim := { program := "ytlodlnbhjghjoaagreat", sum := "a35b1c290035ebfcef018d1ea16e574f45cd98787b65bd0818e8f16c358d6cda", func := "loop.example/g01984/laws.FnSorts", spec := "fnSorts", inPlace := ["slices.overlaps[loop.example/g01984/impl.Pivot]"], unfollowed := true, recurses := true, apart := false }
def FnSortsSaid : Prop := fnSortsRow.holds Tryz.pinned (OpenSpec.ofChange fnSortsSpec)

/-- ITS FALSE NEIGHBOUR: 'it returns false'. Refute it at one input. -/
def fnSortsWrong : ChangeSpec := { name := "fnSorts", fn := fun _ => fun
  | [d] => { results := [.lit (.bool false)], args := [d] }
  | _ => none }
def FnSortsWrongFalsely : Prop := fnSortsRow.holds Tryz.pinned (OpenSpec.ofChange fnSortsWrong)

/- THE SECOND FORM. 'bulk': how many values and letters a reading holds, each counted each time it is reached (what is shared counts as often as it is met; a slice's spare places count too). A statement '..UptoSaid' is the law's where the arguments, and the package variables that the reading takes, are together of bulk at most 1048576: NARROWER than '..Said'. Prove '..Said' where nothing that the law and all that it calls make is longer than what came in: it says more and counts as full. Else prove '..UptoSaid'. A law counts once. -/
mutual
def uptoBulk {H : Type} : DataW H → Nat
  | .lit (.string bytes) => bytes.length + 1
  | .lit _ => 1
  | .nil => 1
  | .ptr d => uptoBulk d + 1
  | .slice elems spare => uptoBulkAll elems + uptoBulkAll spare + 1
  | .agg parts => uptoBulkAll parts + 1
  | .iface _ d => uptoBulk d + 1
  | .map entries => uptoBulkEntries entries + 1
  | .held _ => 1
def uptoBulkAll {H : Type} : List (DataW H) → Nat
  | [] => 0
  | d :: r => uptoBulk d + uptoBulkAll r
def uptoBulkEntries {H : Type} : List (Lit × DataW H) → Nat
  | [] => 0
  | x :: r => uptoBulkEntry x + uptoBulkEntries r
def uptoBulkEntry {H : Type} : Lit × DataW H → Nat
  | (.string bytes, d) => bytes.length + uptoBulk d + 1
  | (_, d) => uptoBulk d + 1
 end
def uptoSmall : (H : Type) → List (DataW H) → Bool := fun _ ds => decide (uptoBulkAll ds ≤ 1048576)
def OpenSpec.upto (s : _root_.Go.ChangeSpec) : _root_.Go.OpenSpec := { _root_.Go.OpenSpec.ofChange s with cond := some uptoSmall }

/-- 'laws.FnExactLedgerOf', WHERE WHAT IT READS IS OF BULK AT MOST 1048576: true; the input reads as it did. -/
def fnExactLedgerOfUptoRow : OpenClaim := { program := "ytlodlnbhjghjoaagreat", sum := "a35b1c290035ebfcef018d1ea16e574f45cd98787b65bd0818e8f16c358d6cda", func := "loop.example/g01984/laws.FnExactLedgerOf", spec := "fnExactLedgerOf", inPlace := ["slices.overlaps[loop.example/g01984/impl.Pivot]"], unfollowed := true, recurses := true, apart := false, narrowed := true }
def FnExactLedgerOfUptoSaid : Prop := fnExactLedgerOfUptoRow.holds Tryz.pinned (OpenSpec.upto fnExactLedgerOfSpec)

/-- 'laws.FnExactSelectWith', WHERE WHAT IT READS IS OF BULK AT MOST 1048576: true; the input reads as it did. -/
def fnExactSelectWithUptoRow : OpenClaim := { program := "ytlodlnbhjghjoaagreat", sum := "a35b1c290035ebfcef018d1ea16e574f45cd98787b65bd0818e8f16c358d6cda", func := "loop.example/g01984/laws.FnExactSelectWith", spec := "fnExactSelectWith", inPlace := ["slices.overlaps[loop.example/g01984/impl.Pivot]"], unfollowed := true, recurses := true, apart := false, narrowed := true }
def FnExactSelectWithUptoSaid : Prop := fnExactSelectWithUptoRow.holds Tryz.pinned (OpenSpec.upto fnExactSelectWithSpec)

/-- 'laws.FnPolicies', WHERE WHAT IT READS IS OF BULK AT MOST 1048576: true; the input reads as it did. -/
def fnPoliciesUptoRow : OpenClaim := { program := "ytlodlnbhjghjoaagreat", sum := "a35b1c290035ebfcef018d1ea16e574f45cd98787b65bd0818e8f16c358d6cda", func := "loop.example/g01984/laws.FnPolicies", spec := "fnPolicies", inPlace := ["slices.overlaps[loop.example/g01984/impl.Pivot]"], unfollowed := true, recurses := true, apart := false, narrowed := true }
def FnPoliciesUptoSaid : Prop := fnPoliciesUptoRow.holds Tryz.pinned (OpenSpec.upto fnPoliciesSpec)

/-- 'laws.FnExactIsWithinBound', WHERE WHAT IT READS IS OF BULK AT MOST 1048576: true; the input reads as it did. -/
def fnExactIsWithinBoundUptoRow : OpenClaim := { program := "ytlodlnbhjghjoaagreat", sum := "a35b1c290035ebfcef018d1ea16e574f45cd98787b65bd0818e8f16c358d6cda", func := "loop.example/g01984/laws.FnExactIsWithinBound", spec := "fnExactIsWithinBound", inPlace := ["slices.overlaps[loop.example/g01984/impl.Pivot]"], unfollowed := true, recurses := true, apart := false, narrowed := true }
def FnExactIsWithinBoundUptoSaid : Prop := fnExactIsWithinBoundUptoRow.holds Tryz.pinned (OpenSpec.upto fnExactIsWithinBoundSpec)

/-- 'laws.FnExactRunQueries', WHERE WHAT IT READS IS OF BULK AT MOST 1048576: true; the input reads as it did. -/
def fnExactRunQueriesUptoRow : OpenClaim := { program := "ytlodlnbhjghjoaagreat", sum := "a35b1c290035ebfcef018d1ea16e574f45cd98787b65bd0818e8f16c358d6cda", func := "loop.example/g01984/laws.FnExactRunQueries", spec := "fnExactRunQueries", inPlace := ["slices.overlaps[loop.example/g01984/impl.Pivot]"], unfollowed := true, recurses := true, apart := false, narrowed := true }
def FnExactRunQueriesUptoSaid : Prop := fnExactRunQueriesUptoRow.holds Tryz.pinned (OpenSpec.upto fnExactRunQueriesSpec)

/-- 'laws.FnTop', WHERE WHAT IT READS IS OF BULK AT MOST 1048576: true; the input reads as it did. -/
def fnTopUptoRow : OpenClaim := { program := "ytlodlnbhjghjoaagreat", sum := "a35b1c290035ebfcef018d1ea16e574f45cd98787b65bd0818e8f16c358d6cda", func := "loop.example/g01984/laws.FnTop", spec := "fnTop", inPlace := ["slices.overlaps[loop.example/g01984/impl.Pivot]"], unfollowed := true, recurses := true, apart := false, narrowed := true }
def FnTopUptoSaid : Prop := fnTopUptoRow.holds Tryz.pinned (OpenSpec.upto fnTopSpec)

/-- 'laws.FnExactSelectFresh', WHERE WHAT IT READS IS OF BULK AT MOST 1048576: true; the input reads as it did. -/
def fnExactSelectFreshUptoRow : OpenClaim := { program := "ytlodlnbhjghjoaagreat", sum := "a35b1c290035ebfcef018d1ea16e574f45cd98787b65bd0818e8f16c358d6cda", func := "loop.example/g01984/laws.FnExactSelectFresh", spec := "fnExactSelectFresh", inPlace := ["slices.overlaps[loop.example/g01984/impl.Pivot]"], unfollowed := true, recurses := true, apart := false, narrowed := true }
def FnExactSelectFreshUptoSaid : Prop := fnExactSelectFreshUptoRow.holds Tryz.pinned (OpenSpec.upto fnExactSelectFreshSpec)

/-- 'laws.FnPending', WHERE WHAT IT READS IS OF BULK AT MOST 1048576: true; the input reads as it did. -/
def fnPendingUptoRow : OpenClaim := { program := "ytlodlnbhjghjoaagreat", sum := "a35b1c290035ebfcef018d1ea16e574f45cd98787b65bd0818e8f16c358d6cda", func := "loop.example/g01984/laws.FnPending", spec := "fnPending", inPlace := ["slices.overlaps[loop.example/g01984/impl.Pivot]"], unfollowed := true, recurses := true, apart := false, narrowed := true }
def FnPendingUptoSaid : Prop := fnPendingUptoRow.holds Tryz.pinned (OpenSpec.upto fnPendingSpec)

/-- 'laws.FnSorts', WHERE WHAT IT READS IS OF BULK AT MOST 1048576: true; the input reads as it did. -/
def fnSortsUptoRow : OpenClaim := { program := "ytlodlnbhjghjoaagreat", sum := "a35b1c290035ebfcef018d1ea16e574f45cd98787b65bd0818e8f16c358d6cda", func := "loop.example/g01984/laws.FnSorts", spec := "fnSorts", inPlace := ["slices.overlaps[loop.example/g01984/impl.Pivot]"], unfollowed := true, recurses := true, apart := false, narrowed := true }
def FnSortsUptoSaid : Prop := fnSortsUptoRow.holds Tryz.pinned (OpenSpec.upto fnSortsSpec)

end Rows
end Go.Proofs.YtlodlnbhjghjoaaGreat
