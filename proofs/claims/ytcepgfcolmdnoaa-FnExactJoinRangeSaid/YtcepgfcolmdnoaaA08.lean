/- Walks through functions, by program out of the session's annotations. -/
import Derived.Test.YtcepgfcolmdnoaaA03
import Derived.Test.YtcepgfcolmdnoaaA06
namespace Go.Proofs.Ytcepgfcolmdnoaa.E
open Go Go.RowKit Go.Proofs
set_option linter.unusedVariables false
set_option linter.unusedSimpArgs false

/-- The rows of a new column. -/
def upto : Nat → List Int
 | 0=>[]
 | n+1=>upto n++[(n:Int)]
/-- A column of the callee's own. -/
def crkO (n:Nat) (c:Crk):List AC:=[.sl n 0 c.vals.length c.vals.length,.sl (n+1) 0 c.rows.length c.rows.length,.sl (n+2) 0 c.piv.length c.piv.length]
def crkR (ti tp:Nat) (c:Crk):List Res:=[.row ti 1 (ints c.vals),.row ti 1 (ints c.rows),.row tp 2 (pairs c.piv)]
set_option maxRecDepth 20000 in
set_option maxHeartbeats 2000000 in
theorem c_slices_Clone___int_int_0 (xs : List Int) (hn : xs.length ≤ 1048576) : EFn Try.prog 123 [.c (.ro (ints xs))] [] (fun r S => (r = .c (.sl 0 0 xs.length xs.length) ∧ S = [.row 3 1 (ints xs)]) ∨ (r = .c (.sc (.slice none 0 0)) ∧ S = [] ∧ xs = [])) := by
 refine E_fn Try.func123 rfl (Nat.le_of_ble_eq_true rfl) ?_
 refine E_seq ?_
 refine E_region' (L:=[0]) rfl ?_
 refine xas ?_
 refine EOps_nil ?_
 refine E_seq ?_
 refine E_seq ?_
 refine E_region' (L:=[0,1]) rfl ?_
 refine xmv ?_
 refine EOps_go rfl rfl (Heavy.op (H_nil rfl rfl (by decide) sl_24 rfl ?_))
 rintro b4 hb4
 refine EOps_nil ?_
 refine E_cond rfl (fun hc4=>?_) (fun hc4=>?_)
 ·have he : xs = [] := by have := hb4 hc4; exact ints_inj (ys := []) this
  refine E_seq ?_
  refine E_region' (L:=[0]) rfl ?_
  refine xas ?_
  refine EOps_nil ?_
  refine E_ret ?_
  exact⟨_,[],rfl,rfl,.inr ⟨rfl,rfl,he⟩⟩
 refine E_skip ?_
 refine E_seq ?_
 refine E_region' (L:=[0,1,2,3]) rfl ?_
 refine EOps_go rfl rfl (Heavy.op (H_bslice rfl rfl (by decide) sl_24 ty_3 za_3 ⟨rfl,by decide⟩ (by decide) rfl rfl rfl rfl ?_))
 refine xmv ?_
 refine EOps_go rfl rfl (EOp_append (news:=ints xs) rfl rfl (by decide) sl_24 ty_3 by_3 za_3 ⟨rfl,by decide⟩ rfl (by first|rfl|assumption) xb7 xb8 xb9 xb10 ?_)
 refine xas ?_
 refine EOps_nil ?_
 refine E_ret ?_
 refine⟨_,[0],rfl,rfl,.inl ⟨?_,?_⟩⟩
 ·simp [AV.ren,ren_sc,ren_ro,AC.ren,AC.ren.rens,ix,rv1,E.get,E.ev,E.cv,E.fill',E.fill,E.slotsOf,ints_len]
 simp [reR,Res.ren,chunk]

theorem c_slices_Clone___int_int_ (xs : List Int) (hn : xs.length ≤ 1048576) : EFn Try.prog 123 [.c (.ro (ints xs))] [] (fun r S => r = .c (.sl 0 0 xs.length xs.length) ∧ S = [.row 3 1 (ints xs)]) :=
 (c_slices_Clone___int_int_0 xs hn).ghost (by
  rintro r S (⟨rfl,rfl⟩|⟨rfl,rfl,rfl⟩)
  ·exact .inl ⟨rfl,rfl⟩
  exact .inr (.inr ⟨_,.sl 0 0 0 0,[some (3,1)],rfl,rfl,rfl,rfl,rfl⟩))

/-- The numbers that a mark leaves. -/
def seqF (q : Int) : Nat → List Int
 | 0=>[]
 | n+1=>seqF q n++[q+n]
theorem seqF_len (q : Int) : ∀ n, (seqF q n).length = n
 | 0=>rfl
 | n+1=>by simp [seqF,seqF_len q n]
theorem seqF_at (q : Int) : ∀ (n k : Nat), k < n → (seqF q n)[k]? = some (q + k)
 | n + 1, k, h => by
  unfold seqF
  rcases Nat.lt_or_ge k n with h'|h'
  ·rw [List.getElem?_append_left (by rw [seqF_len];exact h')];exact seqF_at q n k h'
  have : k = n := by omega
  subst this
  rw [List.getElem?_append_right (by rw [seqF_len];omega),seqF_len];simp
def seqP (q : Int) : Nat → List (Int × Int)
 | 0=>[]
 | n+1=>seqP q n++[(q+2*n,q+2*n+1)]
theorem seqP_len (q : Int) : ∀ n, (seqP q n).length = n
 | 0=>rfl
 | n+1=>by simp [seqP,seqP_len q n]
theorem seqP_at (q : Int) : ∀ (n k : Nat), k < n → (seqP q n)[k]? = some (q + 2 * k, q + 2 * k + 1)
 | n + 1, k, h => by
  unfold seqP
  rcases Nat.lt_or_ge k n with h'|h'
  ·rw [List.getElem?_append_left (by rw [seqP_len];exact h')];exact seqP_at q n k h'
  have : k = n := by omega
  subst this
  rw [List.getElem?_append_right (by rw [seqP_len];omega),seqP_len];simp
theorem over_at {α : Type} {l xs : List α} {k : Nat} (hl : l.length = k) (hk : k < xs.length) : ∃ x, xs[k]? = some x ∧ (l ++ xs.drop k)[k]? = some x ∧ ∀ y, (l ++ xs.drop k).set k y = (l ++ [y]) ++ xs.drop (k + 1) := by
 refine⟨xs[k],List.getElem?_eq_getElem hk,?_,fun y=>?_⟩
 ·rw [List.getElem?_append_right (by omega),hl,Nat.sub_self,List.getElem?_drop];simp [hk]
 rw [List.set_append,if_neg (by omega),hl,Nat.sub_self,List.drop_eq_getElem_cons hk,List.set_cons_zero,List.append_assoc];rfl

end Go.Proofs.Ytcepgfcolmdnoaa.E
