/- Walks through functions, by program out of the session's annotations. -/
import Derived.Test.YtcepgfcolmdnoaaA42
import Derived.Test.YtcepgfcolmdnoaaA03
import Derived.Test.YtcepgfcolmdnoaaA18
namespace Go.Proofs.Ytcepgfcolmdnoaa.E
open Go Go.RowKit Go.Proofs
set_option linter.unusedVariables false
set_option linter.unusedSimpArgs false

theorem isPv_iff {l:List (Int × Int)} {v:Int}:isPv l v=true ↔ ∃ p ∈ l,p.1=v:=by simp [isPv,fpv]
theorem insPv_in {l : List (Int × Int)} {p q : Int × Int} (h : q = p ∨ q ∈ l) : q ∈ insPv l p := by
 simp only [insPv,List.mem_append,List.mem_singleton]
 rcases h with h|h
 ·exact .inl (.inr h)
 rw [← List.take_append_drop (cutIx l p.1) l] at h
 rcases List.mem_append.1 h with h|h
 ·exact .inl (.inl h)
 exact .inr h
theorem crackC_pv {c : Crk} {v : Int} : isPv (crackC c v).1.piv v = true := by
 cases h:isPv c.piv v
 ·rw [crackC, if_neg (by simp [h])]
  exact isPv_iff.2 ⟨_,insPv_in (.inl rfl),rfl⟩
 rw [crackC,if_pos h];exact h
theorem crackC_keep {c : Crk} {v u : Int} (hu : isPv c.piv u = true) : isPv (crackC c v).1.piv u = true := by
 cases h:isPv c.piv v
 ·rw [crackC, if_neg (by simp [h])]
  obtain⟨p,hp,e⟩:=isPv_iff.1 hu
  exact isPv_iff.2 ⟨p,insPv_in (.inr hp),e⟩
 rw [crackC,if_pos h];exact hu
theorem crackC_vals {c : Crk} {v : Int} : (crackC c v).1.vals.length = c.vals.length := by
 cases h:isPv c.piv v
 ·rw [crackC, if_neg (by simp [h])]
  exact swps_len _ _
 rw [crackC,if_pos h]
theorem crackC_piv {c : Crk} {v : Int} : (crackC c v).1.piv.length = if isPv c.piv v = true then c.piv.length else c.piv.length + 1 := by
 cases h:isPv c.piv v
 ·rw [crackC, if_neg (by simp [h]), if_neg (by simp)]
  exact insPv_len _ _
 rw [crackC,if_pos h,if_pos rfl]
theorem lend_cutI {R : List Res} {i e a b tot : Nat} {xs : List Int} (hR : R[i]? = some (.row e 1 (ints xs))) (ht : xs.length = tot) : E.lend R (.c (.sl i (0 + a) (b - a) tot)) = .c (.ro (ints (cutV xs a b))) := by
 simp [E.lend,lendC,hR,ints_len,ht,cutV,ints_take,ints_drop]
end Go.Proofs.Ytcepgfcolmdnoaa.E
