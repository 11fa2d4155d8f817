/- Walks through functions, by program out of the session's annotations. -/
import Derived.Test.YtcepgfcolmdnoaaA150
import Derived.Test.YtcepgfcolmdnoaaF4
namespace Go.Proofs.Ytcepgfcolmdnoaa.E
open Go Go.RowKit Go.Proofs
set_option linter.unusedVariables false
set_option linter.unusedSimpArgs false

theorem insIx_cases (l : List (Int × Int)) (x : Int) : (insIx l x < 0) ∨ ∃ k : Nat, k < l.length ∧ insIx l x = k := by
 unfold insIx rowIx fIdx
 split
 ·rename_i h
  refine .inr ⟨_,?_,rfl⟩
  obtain⟨y,hy,h1⟩:=List.any_eq_true.1 h
  have:=List.findIdx_lt_length_of_exists (p:=fun y=>decide (x=y)) ⟨y,hy,h1⟩
  simpa using this
 ·exact .inl (by omega)
def delN (p:Pnd) (x:Int):Pnd:=if 0≤insIx p.ins x then ⟨p.ins.take (insIx p.ins x).toNat++p.ins.drop ((insIx p.ins x).toNat+1),p.del⟩ else ⟨p.ins,p.del++[x]⟩
def delOk (c:Crk) (p:Pnd) (x:Int):Bool:=isPnd c p && isPnd c (delN p x)
def delR (c:Crk) (p:Pnd) (x:Int):Pnd:=if delOk c p x=true then delN p x else p
theorem delN_at {p : Pnd} {x : Int} {k : Nat} (h : insIx p.ins x = k) : delN p x = ⟨p.ins.take k ++ p.ins.drop (k + 1), p.del⟩ := by
 unfold delN
 rw [h,if_pos (by omega)]
 simp
theorem delN_no {p : Pnd} {x : Int} (h : insIx p.ins x < 0) : delN p x = ⟨p.ins, p.del ++ [x]⟩ := by
 unfold delN
 rw [if_neg (by omega)]
theorem E_moveN {P : Program} {N : Nat} {s : Slots} {R : List Res} {Q : Exit → Slots → List Res → Prop} {c : Code} (n i j : Nat) (hn : R.length = n) {q e k m tot : Nat} {cs : List AC} {rows rows' : List (List T)} (hR : R[i]? = some (.box cs)) (hc : cs[j]? = some (.sl q 0 m tot)) (hq : R[q]? = some (.row e k rows)) (hl : rows.length = tot) (hm : m ≤ tot) (hr : rows.take m = rows') (ha : rows.flatten.all isSc = true)
  (h:ECode P N c s ((R.set q .gone++[Res.row e k rows']).set i (.box (cs.set j (.sl n 0 m m)))) Q):ECode P N c s R Q:=by
 subst hn
 exact E_move i j hR hc hq hl hm hr ha h
theorem cut_len {l:List (Int × Int)} {k:Nat} (h:k<l.length):(l.take k++l.drop (k+1)).length=l.length - 1:=by simp;omega
theorem cut_take {l : List (Int × Int)} {k : Nat} (h : k < l.length) : (pairs (l.take k ++ l.drop (k + 1) ++ [((0 : Int), (0 : Int))])).take (l.length - 1) = pairs (l.take k ++ l.drop (k + 1)) := by
 rw [pairs_take,List.take_append_of_le_length (by rw [cut_len h];omega),List.take_of_length_le (by rw [cut_len h];omega)]

end Go.Proofs.Ytcepgfcolmdnoaa.E
