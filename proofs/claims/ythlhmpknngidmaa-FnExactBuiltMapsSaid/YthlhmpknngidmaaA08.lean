/- Walks through functions, by program out of the session's annotations. -/
import Derived.Test.YthlhmpknngidmaaA03
import Derived.Test.YthlhmpknngidmaaA06
namespace Go.Proofs.Ythlhmpknngidmaa.E
open Go Go.RowKit Go.Proofs
set_option linter.unusedVariables false
set_option linter.unusedSimpArgs false

/-- The rows of a new column. -/
def upto : Nat → List Int
  | 0 => []
  | n + 1 => upto n ++ [(n : Int)]
/-- The numbers that a mark leaves. -/
def seqF (q : Int) : Nat → List Int
  | 0 => []
  | n + 1 => seqF q n ++ [q + n]
theorem seqF_len (q : Int) : ∀ n, (seqF q n).length = n
  | 0 => rfl
  | n + 1 => by simp [seqF, seqF_len q n]
theorem seqF_at (q : Int) : ∀ (n k : Nat), k < n → (seqF q n)[k]? = some (q + k)
  | n + 1, k, h => by
    unfold seqF
    rcases Nat.lt_or_ge k n with h' | h'
    · rw [List.getElem?_append_left (by rw [seqF_len]; exact h')]; exact seqF_at q n k h'
    · have : k = n := by omega
      subst this
      rw [List.getElem?_append_right (by rw [seqF_len]; omega), seqF_len]; simp
def seqP (q : Int) : Nat → List (Int × Int)
  | 0 => []
  | n + 1 => seqP q n ++ [(q + 2 * n, q + 2 * n + 1)]
theorem seqP_len (q : Int) : ∀ n, (seqP q n).length = n
  | 0 => rfl
  | n + 1 => by simp [seqP, seqP_len q n]
theorem over_at {α : Type} {l xs : List α} {k : Nat} (hl : l.length = k) (hk : k < xs.length) : ∃ x, xs[k]? = some x ∧ (l ++ xs.drop k)[k]? = some x ∧ ∀ y, (l ++ xs.drop k).set k y = (l ++ [y]) ++ xs.drop (k + 1) := by
  refine ⟨xs[k], List.getElem?_eq_getElem hk, ?_, fun y => ?_⟩
  · rw [List.getElem?_append_right (by omega), hl, Nat.sub_self, List.getElem?_drop]; simp [hk]
  · rw [List.set_append, if_neg (by omega), hl, Nat.sub_self, List.drop_eq_getElem_cons hk, List.set_cons_zero, List.append_assoc]; rfl

end Go.Proofs.Ythlhmpknngidmaa.E
