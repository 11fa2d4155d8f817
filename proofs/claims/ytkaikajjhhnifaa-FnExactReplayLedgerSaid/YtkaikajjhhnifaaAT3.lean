/- Walks through functions, by program out of the session's annotations. -/
import Derived.Test.YtkaikajjhhnifaaAT2
namespace Go.Proofs.Ytkaikajjhhnifaa.E
open Go Go.RowKit Go.Proofs
set_option linter.unusedVariables false
set_option linter.unusedSimpArgs false

def tyChg : Ty := .st (.cons .int (.cons .int (.cons .int (.cons .int (.cons .int .nil)))))
def tyChgs : Ty := .sl tyChg
def chgsOf (y : tyChgs.den) : List (Int × Int × Int × Int × Int) := List.map (fun p : Int × Int × Int × Int × Int × Unit => (p.1, p.2.1, p.2.2.1, p.2.2.2.1, p.2.2.2.2.1)) y
theorem quints_av (l : List (Int × Int × Int × Int × Int × Unit)) : quints (List.map (fun p : Int × Int × Int × Int × Int × Unit => (p.1, p.2.1, p.2.2.1, p.2.2.2.1, p.2.2.2.2.1)) l) = List.map (Ty.enc (.st (.cons .int (.cons .int (.cons .int (.cons .int (.cons .int .nil))))))) l := by
  simp only [quints, List.map_map]
  rfl
theorem chgs_av (y : tyChgs.den) : tyChgs.av y = .c (.ro (quints (chgsOf y))) := congrArg (fun z => AV.c (AC.ro z)) (quints_av y).symm

end Go.Proofs.Ytkaikajjhhnifaa.E
