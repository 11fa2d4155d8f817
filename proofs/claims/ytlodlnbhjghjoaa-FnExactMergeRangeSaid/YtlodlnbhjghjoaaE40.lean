/- Words of the session's own, fortieth part: a call of a function value with what it holds, over some of the resources; remainders. -/
import Derived.Test.YtlodlnbhjghjoaaE36
import Derived.Test.YtlodlnbhjghjoaaE37
namespace Go.Proofs.Ytlodlnbhjghjoaa.E
open Go Go.RowKit
set_option linter.unusedVariables false
set_option linter.unusedSimpArgs false

/-- What a variable's field holds, told as a row of its own, under a number that is told. -/
theorem E_moveN' {P : Program} {N : Nat} {s : Slots} {R : List Res} {Q : Exit → Slots → List Res → Prop} {c : Code} (n i j : Nat) (hn : R.length = n) {q e k m tot : Nat} {cs : List AC} {rows rows' : List (List T)} (hR : R[i]? = some (.box cs)) (hc : cs[j]? = some (.sl q 0 m tot)) (hq : R[q]? = some (.row e k rows)) (hl : rows.length = tot) (hm : m ≤ tot) (hr : rows.take m = rows') (ha : rows.flatten.all isSc = true)
    (h : ECode P N c s ((R.set q .gone ++ [Res.row e k rows']).set i (.box (cs.set j (.sl n 0 m m)))) Q) : ECode P N c s R Q := by
  subst hn
  exact E_move i j hR hc hq hl hm hr ha h

theorem G_moveN' {P : Program} {N b : Nat} {s : Slots} {R : List Res} {Q : Exit → Slots → List Res → Prop} {c : Code} (n i j : Nat) (hn : R.length = n) {q e k m tot : Nat} {cs : List AC} {rows rows' : List (List T)} (hR : R[i]? = some (.box cs)) (hc : cs[j]? = some (.sl q 0 m tot)) (hq : R[q]? = some (.row e k rows)) (hl : rows.length = tot) (hm : m ≤ tot) (hr : rows.take m = rows') (ha : rows.flatten.all isSc = true)
    (h : GCode P N b c s ((R.set q .gone ++ [Res.row e k rows']).set i (.box (cs.set j (.sl n 0 m m)))) Q) : GCode P N b c s R Q := by
  subst hn
  exact G_move i j hR hc hq hl hm hr ha h
end Go.Proofs.Ytlodlnbhjghjoaa.E
