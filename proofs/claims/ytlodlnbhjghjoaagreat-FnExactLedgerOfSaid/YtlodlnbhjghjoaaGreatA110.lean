/- Walks through functions, by program out of the session's annotations. -/
import Derived.Test.YtlodlnbhjghjoaaGreatA93
import Derived.Test.YtlodlnbhjghjoaaGreatA92
import Derived.Test.YtlodlnbhjghjoaaGreatA47
import Derived.Test.YtlodlnbhjghjoaaGreatF4
namespace Go.Proofs.YtlodlnbhjghjoaaGreat.E
open Go Go.RowKit Go.Proofs
set_option linter.unusedVariables false
set_option linter.unusedSimpArgs false

def sw1 (c:Crk) (s:Sett) (r:Int × Int):Crk × Sett × List Qn:=withW 0 c s r.1 []
def sw2 (c:Crk) (s:Sett) (r:Int × Int):Crk × Sett × List Qn:=withW 0 (sw1 c s r).1 (sw1 c s r).2.1 r.2 []
def swR (c:Crk) (r:Int × Int):List Int:=rowsB c (fpAt c.piv r.1) (fpAt c.piv r.2)
structure SwOk (c : Crk) (s : Sett) (r : Int × Int) : Prop where
 c1:isCrk (sw1 c s r).1=true
 s1:isSet (sw1 c s r).2.1=true
 c2:isCrk (sw2 c s r).1=true
 s2:isSet (sw2 c s r).2.1=true
 l1:okL (sw1 c s r).2.2 8001
 l2:okL (sw2 c s r).2.2 8001
end Go.Proofs.YtlodlnbhjghjoaaGreat.E
