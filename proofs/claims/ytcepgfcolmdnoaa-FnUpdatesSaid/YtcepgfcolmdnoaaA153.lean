/- Walks through functions, by program out of the session's annotations. -/
import Derived.Test.YtcepgfcolmdnoaaA49
import Derived.Test.YtcepgfcolmdnoaaA100
import Derived.Test.YtcepgfcolmdnoaaA47
namespace Go.Proofs.Ytcepgfcolmdnoaa.E
open Go Go.RowKit Go.Proofs
set_option linter.unusedVariables false
set_option linter.unusedSimpArgs false

theorem mem_liveA {c : Crk} {p : Pnd} {r : Int × Int} (hl : c.rows.length = c.vals.length) (y : Int) : ∀ k, k ≤ c.vals.length → (y ∈ liveA c p r k ↔ ∃ z ∈ (zpC c).take k, z.2 = y ∧ inR r z.1 = true ∧ y ∉ p.del)
 | 0,_=>by simp [liveA]
 | k + 1, hk => by
  obtain⟨v,hv⟩:∃ v,c.vals[k]? = some v:=⟨_,List.getElem?_eq_getElem (by omega)⟩
  obtain⟨w,hw⟩:∃ w,c.rows[k]? = some w:=⟨_,List.getElem?_eq_getElem (by omega)⟩
  have hz:(zpC c)[k]? = some (v,w):=by rw [zpC,List.getElem?_zip_eq_some];exact⟨hv,hw⟩
  have ih:=mem_liveA hl y k (p:=p) (r:=r) (by omega)
  rw [liveA_at hv hw]
  split
  ·rename_i h
   simp only [Bool.and_eq_true,Bool.not_eq_true',decide_eq_false_iff_not] at h
   rw [List.mem_append,List.mem_singleton,ih]
   constructor
   ·rintro (⟨z, h1, h2⟩ | h1)
    ·exact⟨z,(mem_take_succ hz).2 (.inl h1),h2⟩
    ·subst h1;exact⟨(v,y),(mem_take_succ hz).2 (.inr rfl),rfl,h.1,h.2⟩
   ·rintro ⟨z, h1, h2, h3, h4⟩
    rcases (mem_take_succ hz).1 h1 with h5|h5
    ·exact .inl ⟨z,h5,h2,h3,h4⟩
    ·subst h5;exact .inr h2.symm
  ·rename_i h
   rw [ih]
   constructor
   ·rintro⟨z,h1,h2⟩;exact⟨z,(mem_take_succ hz).2 (.inl h1),h2⟩
   ·rintro ⟨z, h1, h2, h3, h4⟩
    rcases (mem_take_succ hz).1 h1 with h5|h5
    ·exact⟨z,h5,h2,h3,h4⟩
    ·subst h5
     exfalso
     apply h
     simp only [Bool.and_eq_true,Bool.not_eq_true',decide_eq_false_iff_not]
     subst h2
     exact⟨h3,h4⟩
theorem mem_liveB {c : Crk} {p : Pnd} {r : Int × Int} (hl : c.rows.length = c.vals.length) (y : Int) : ∀ k, k ≤ p.ins.length → (y ∈ liveB c p r k ↔ (∃ z ∈ zpC c, z.2 = y ∧ inR r z.1 = true ∧ y ∉ p.del) ∨ ∃ z ∈ p.ins.take k, z.2 = y ∧ inR r z.1 = true)
 | 0, _ => by
  have hzl:(zpC c).length=c.vals.length:=by simp [zpC,hl]
  rw [liveB,mem_liveA hl y _ (Nat.le_refl _),List.take_of_length_le (by omega)]
  simp
 | k + 1, hk => by
  obtain⟨x,hx⟩:∃ x,p.ins[k]? = some x:=⟨_,List.getElem?_eq_getElem (by omega)⟩
  have ih:=mem_liveB hl y k (p:=p) (r:=r) (by omega)
  rw [liveB_at hx]
  split
  ·rename_i h
   rw [List.mem_append,List.mem_singleton,ih]
   constructor
   ·rintro ((h1 | ⟨z, h1, h2⟩) | h1)
    ·exact .inl h1
    ·exact .inr ⟨z,(mem_take_succ hx).2 (.inl h1),h2⟩
    ·subst h1;exact .inr ⟨x,(mem_take_succ hx).2 (.inr rfl),rfl,h⟩
   ·rintro (h1 | ⟨z, h1, h2, h3⟩)
    ·exact .inl (.inl h1)
    ·rcases (mem_take_succ hx).1 h1 with h5 | h5
     ·exact .inl (.inr ⟨z,h5,h2,h3⟩)
     ·subst h5;exact .inr h2.symm
  ·rename_i h
   rw [ih]
   constructor
   ·rintro (h1 | ⟨z, h1, h2⟩)
    ·exact .inl h1
    ·exact .inr ⟨z,(mem_take_succ hx).2 (.inl h1),h2⟩
   ·rintro (h1 | ⟨z, h1, h2, h3⟩)
    ·exact .inl h1
    ·rcases (mem_take_succ hx).1 h1 with h5 | h5
     ·exact .inr ⟨z,h5,h2,h3⟩
     ·subst h5;exact absurd h3 h
/-- What rows are live. -/
theorem mem_live {c : Crk} {p : Pnd} {r : Int × Int} (hp : isPnd c p = true) (y : Int) : y ∈ liveL c p r ↔ (∃ z ∈ zpC c, z.2 = y ∧ inR r z.1 = true ∧ y ∉ p.del) ∨ ∃ z ∈ p.ins, z.2 = y ∧ inR r z.1 = true := by
 have hl:=(pnd_ok hp).crk.rl
 rw [liveL,if_pos hp,(sortI_perm _).mem_iff,mem_liveB hl y _ (Nat.le_refl _),List.take_length]
end Go.Proofs.Ytcepgfcolmdnoaa.E
