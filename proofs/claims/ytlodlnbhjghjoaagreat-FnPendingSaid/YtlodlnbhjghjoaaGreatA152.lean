/- Walks through functions, by program out of the session's annotations. -/
import Derived.Test.YtlodlnbhjghjoaaGreatA150
import Derived.Test.YtlodlnbhjghjoaaGreatF4
namespace Go.Proofs.YtlodlnbhjghjoaaGreat.E
open Go Go.RowKit Go.Proofs
set_option linter.unusedVariables false
set_option linter.unusedSimpArgs false

theorem insIx_cases (l : List (Int × Int)) (x : Int) : (insIx l x < 0) ∨ ∃ k : Nat, k < l.length ∧ insIx l x = k := by
 unfold insIx rowIx fIdx
 split
 ·rename_i h
  refine .inr ⟨_,?_,rfl⟩
  obtain⟨y,hy,h1⟩:=List.any_eq_true.1 h
  have:=List.findIdx_lt_length_of_exists (p:=fun y=>decide (x=y)) ⟨y,hy,h1⟩
  simpa using this
 exact .inl (by omega)
def delN (p:Pnd) (x:Int):Pnd:=if 0≤insIx p.ins x then ⟨p.ins.take (insIx p.ins x).toNat++p.ins.drop ((insIx p.ins x).toNat+1),p.del⟩ else ⟨p.ins,p.del++[x]⟩
def delOk (c:Crk) (p:Pnd) (x:Int):Bool:=isPnd c p && isPnd c (delN p x)
def delR (c:Crk) (p:Pnd) (x:Int):Pnd:=if delOk c p x=true then delN p x else p
theorem delN_at {p : Pnd} {x : Int} {k : Nat} (h : insIx p.ins x = k) : delN p x = ⟨p.ins.take k ++ p.ins.drop (k + 1), p.del⟩ := by
 unfold delN
 rw [h,if_pos (by omega)]
 simp
theorem delN_no {p : Pnd} {x : Int} (h : insIx p.ins x < 0) : delN p x = ⟨p.ins, p.del ++ [x]⟩ := by
 unfold delN
 rw [if_neg (by omega)]
end Go.Proofs.YtlodlnbhjghjoaaGreat.E
