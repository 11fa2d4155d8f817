/- Walks through functions, by program out of the session's annotations. -/
import Derived.Test.YtlodlnbhjghjoaaGreatAT
import Derived.Test.YtlodlnbhjghjoaaGreatA24
namespace Go.Proofs.YtlodlnbhjghjoaaGreat.E
open Go Go.RowKit Go.Proofs
set_option linter.unusedVariables false
set_option linter.unusedSimpArgs false

def tyPr : Ty := .st (.cons .int (.cons .int .nil))
def prOf (y : tyPr.den) : Int × Int := (y.1, y.2.1)
theorem pr_av (y : tyPr.den) : tyPr.av y = .agg [.sc (.int .i64 (prOf y).1), .sc (.int .i64 (prOf y).2)] := rfl
def tyPrs : Ty := .sl tyPr
def prsOf (y : tyPrs.den) : List (Int × Int) := List.map (fun p : Int × Int × Unit => (p.1, p.2.1)) y
def tyPnd : Ty := .st (.cons tyPrs (.cons (.sl .int) .nil))
def pndOf (y : tyPnd.den) : Pnd := ⟨prsOf y.1, y.2.1⟩
theorem pnd_av (y : tyPnd.den) : tyPnd.av y = .agg (pndC (pndOf y)) :=
 agg_eq (cons_eq (congrArg AC.ro (pairs_av y.1).symm) (cons_eq rfl rfl))

end Go.Proofs.YtlodlnbhjghjoaaGreat.E
