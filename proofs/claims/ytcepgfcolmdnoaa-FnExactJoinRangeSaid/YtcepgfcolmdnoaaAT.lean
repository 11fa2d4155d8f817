/- Walks through functions, by program out of the session's annotations. -/
import Derived.Test.YtcepgfcolmdnoaaA05
namespace Go.Proofs.Ytcepgfcolmdnoaa.E
open Go Go.RowKit Go.Proofs
set_option linter.unusedVariables false
set_option linter.unusedSimpArgs false

def tyCrk:Ty:=.st (.cons (.sl .int) (.cons (.sl .int) (.cons (.sl (.st (.cons .int (.cons .int .nil)))) .nil)))
def crkOf (y:tyCrk.den):Crk:=⟨y.1,y.2.1,List.map (fun p:Int × Int × Unit=>(p.1,p.2.1)) y.2.2.1⟩
theorem pairs_av (l : List (Int × Int × Unit)) : pairs (List.map (fun p : Int × Int × Unit => (p.1, p.2.1)) l) = List.map (Ty.enc (.st (.cons .int (.cons .int .nil)))) l := by
 simp only [pairs,List.map_map]
 rfl
theorem crk_av (y : tyCrk.den) : tyCrk.av y = .agg (crkC (crkOf y)) :=
 agg_eq (cons_eq rfl (cons_eq rfl (cons_eq (congrArg AC.ro (pairs_av y.2.2.1).symm) rfl)))
end Go.Proofs.Ytcepgfcolmdnoaa.E
