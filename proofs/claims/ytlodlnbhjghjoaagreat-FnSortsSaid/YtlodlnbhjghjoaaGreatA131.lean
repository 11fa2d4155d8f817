/- Walks through functions, by program out of the session's annotations. -/
import Derived.Test.YtlodlnbhjghjoaaGreatA122
import Derived.Test.YtlodlnbhjghjoaaGreatA51
import Derived.Test.YtlodlnbhjghjoaaGreatA52
import Derived.Test.YtlodlnbhjghjoaaGreatA47
namespace Go.Proofs.YtlodlnbhjghjoaaGreat.E
open Go Go.RowKit Go.Proofs
set_option linter.unusedVariables false
set_option linter.unusedSimpArgs false

theorem fp_mem {c : Crk} {u : Int} (h : isPv c.piv u = true) : (u, fpAt c.piv u) ∈ c.piv := by
 unfold isPv at h
 unfold fpAt
 cases hf:fpv c.piv u with
 | none=>rw [hf] at h;cases h
 | some p =>
  have hm:=List.mem_of_find?_eq_some hf
  have hp:p.1=u:=by simpa using List.find?_some hf
  have e:(u,p.2)=p:=by rw [← hp]
  dsimp only
  rw [e];exact hm
/-- What is wanted stands together. -/
theorem filter_mid {α : Type} (q : α → Bool) : ∀ (l : List α) (a b : Nat), a ≤ b → b ≤ l.length → (∀ i x, l[i]? = some x → (q x = true ↔ a ≤ i ∧ i < b)) → l.filter q = (l.drop a).take (b - a)
 | [], a, b, _, hb, _ => by
  obtain rfl:b=0:=by simpa using hb
  simp
 | x :: l, 0, 0, _, _, h => by
  have h0:¬ q x=true:=fun e=>by have:=(h 0 x rfl).1 e;omega
  rw [List.filter_cons_of_neg h0, filter_mid q l 0 0 (Nat.le_refl _) (Nat.zero_le _) (fun i y hy => by
   have:=h (i+1) y (by simpa using hy)
   rw [this];omega)]
  simp
 | x :: l, 0, b + 1, _, hb, h => by
  have h0:q x=true:=(h 0 x rfl).2 (by omega)
  rw [List.filter_cons_of_pos h0, filter_mid q l 0 b (Nat.zero_le _) (by simpa using hb) (fun i y hy => by
   have:=h (i+1) y (by simpa using hy)
   rw [this];omega)]
  simp
 | x::l,a+1,0,hab,_,_=>by omega
 | x :: l, a + 1, b + 1, hab, hb, h => by
  have h0:¬ q x=true:=fun e=>by have:=(h 0 x rfl).1 e;omega
  rw [List.filter_cons_of_neg h0, filter_mid q l a b (by omega) (by simpa using hb) (fun i y hy => by
   have:=h (i+1) y (by simpa using hy)
   rw [this];omega)]
  rw [List.drop_succ_cons,show b+1 - (a+1)=b - a by omega]
end Go.Proofs.YtlodlnbhjghjoaaGreat.E
