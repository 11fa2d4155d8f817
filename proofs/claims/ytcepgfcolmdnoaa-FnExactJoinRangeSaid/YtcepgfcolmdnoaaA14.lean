/- Walks through functions, by program out of the session's annotations. -/
import Derived.Test.YtcepgfcolmdnoaaA11
import Derived.Test.YtcepgfcolmdnoaaF3
namespace Go.Proofs.Ytcepgfcolmdnoaa.E
open Go Go.RowKit Go.Proofs
set_option linter.unusedVariables false
set_option linter.unusedSimpArgs false

/-- The elements from a on. -/
def elI (c:Crk) (i:Int):Int × Int:=(c.vals.getD i.toNat 0,c.rows.getD i.toNat 0)
def elemsN (c : Crk) (a : Int) : Nat → List (Int × Int)
 | 0=>[]
 | n+1=>elemsN c a n++[elI c (a+n)]
theorem elemsN_len (c : Crk) (a : Int) : ∀ n, (elemsN c a n).length = n
 | 0=>rfl
 | n+1=>by simp [elemsN,elemsN_len c a n]
def cutIx (l:List (Int × Int)) (v:Int):Nat:=l.findIdx fun p=>decide (v<p.1)
def aOf (l:List (Int × Int)) (k:Nat):Int:=if k=0 then 0 else (l.getD (k - 1) (0,0)).2
def zOf (l:List (Int × Int)) (n:Int) (k:Nat):Int:=if k<l.length then (l.getD k (0,0)).2 else n
theorem cutIx_le (l:List (Int × Int)) (v:Int):cutIx l v≤l.length:=List.findIdx_le_length
theorem cutIx_at {l : List (Int × Int)} {v : Int} {k : Nat} {p : Int × Int} (h : ∀ q ∈ l.take k, ¬ v < q.1) (hp : l[k]? = some p) (hv : v < p.1) : cutIx l v = k := by
 have hk : k < l.length := by
  rcases Nat.lt_or_ge k l.length with h'|h'
  ·exact h'
  rw [List.getElem?_eq_none h'] at hp;cases hp
 unfold cutIx
 rw [List.findIdx_eq hk]
 refine⟨by rw [List.getElem?_eq_getElem hk] at hp;rw [Option.some.inj hp];simpa using hv,fun j hj=>?_⟩
 have:=h l[j] (List.mem_of_getElem? (i:=j) (by rw [List.getElem?_take,if_pos hj];exact List.getElem?_eq_getElem (by omega)))
 simpa using this
theorem cutIx_none {l : List (Int × Int)} {v : Int} (h : ∀ q ∈ l, ¬ v < q.1) : cutIx l v = l.length := by
 unfold cutIx
 rw [List.findIdx_eq_length]
 intro q hq
 simpa using h q hq
theorem aOf_step {l : List (Int × Int)} {k : Nat} {p : Int × Int} (hp : l[k]? = some p) : aOf l (k + 1) = p.2 := by
 rw [aOf,if_neg (by omega),Nat.add_sub_cancel,getD_of hp]
theorem zOf_at {l : List (Int × Int)} {n : Int} {k : Nat} {p : Int × Int} (hp : l[k]? = some p) : zOf l n k = p.2 := by
 have hk : k < l.length := by
  rcases Nat.lt_or_ge k l.length with h'|h'
  ·exact h'
  rw [List.getElem?_eq_none h'] at hp;cases hp
 rw [zOf,if_pos hk,getD_of hp]
theorem zOf_end (l:List (Int × Int)) (n:Int):zOf l n l.length=n:=by simp [zOf]
/-- Pivots as a column has them: what follows of it. -/
theorem piv_parts {c : Crk} (h : isCrk c = true) {k : Nat} {p : Int × Int} (hp : c.piv[k]? = some p) : 0 ≤ p.2 ∧ p.2 ≤ c.vals.length ∧ ∀ q, 0 < k → c.piv[k - 1]? = some q → q.1 < p.1 ∧ q.2 ≤ p.2 := by
 have hk : k < c.piv.length := by
  rcases Nat.lt_or_ge k c.piv.length with h'|h'
  ·exact h'
  rw [List.getElem?_eq_none h'] at hp;cases hp
 simp only [isCrk,Bool.and_eq_true] at h
 have h1:=allK_at h.2 hk
 rw [pivP,getD_of hp] at h1
 simp only [pivQ,isIn,Bool.and_eq_true,Bool.or_eq_true,decide_eq_true_eq] at h1
 refine⟨by omega,by omega,fun q h0 hq=>?_⟩
 rw [getD_of hq] at h1
 omega
theorem crk_lens {c : Crk} (h : isCrk c = true) : c.vals.length ≤ 64 ∧ c.rows.length = c.vals.length ∧ c.piv.length ≤ 2001 := by
 refine⟨?_,?_,?_⟩
 ·simp only [isCrk, Bool.and_eq_true] at h
  exact (areVals_parts h.1.1.1).1
 ·simp only [isCrk, Bool.and_eq_true, decide_eq_true_eq] at h
  exact h.1.1.2
 rcases Nat.lt_or_ge 2001 c.piv.length with h' | h'
 ·rw [crk_many h'] at h;cases h
 exact h'
theorem at_lt {α:Type} {l:List α} {k:Nat} (h:k<l.length):∃ x,l[k]? = some x:=⟨_,List.getElem?_eq_getElem h⟩
theorem cut_bounds {c : Crk} (h : isCrk c = true) {k : Nat} (hk : k ≤ c.piv.length) : 0 ≤ aOf c.piv k ∧ aOf c.piv k ≤ zOf c.piv c.vals.length k ∧ zOf c.piv c.vals.length k ≤ c.vals.length := by
 rcases Nat.eq_zero_or_pos k with rfl|h0
 ·rcases Nat.eq_zero_or_pos c.piv.length with e | e
  ·rw [show zOf c.piv c.vals.length 0 = c.vals.length by simp [zOf, e]]
   simp [aOf]
  obtain ⟨p, hp⟩ := at_lt e
  have:=piv_parts h hp
  rw [zOf_at hp]
  simp only [aOf,if_true]
  omega
 obtain ⟨q, hq⟩ := at_lt (l := c.piv) (k := k - 1) (by omega)
 have hq1:=piv_parts h hq
 have ha : aOf c.piv k = q.2 := by
  have:=aOf_step hq
  rwa [show k - 1+1=k by omega] at this
 rcases Nat.lt_or_ge k c.piv.length with h'|h'
 ·obtain ⟨p, hp⟩ := at_lt h'
  have hp1:=piv_parts h hp
  have:=hp1.2.2 q h0 hq
  rw [zOf_at hp,ha]
  omega
 obtain rfl : k = c.piv.length := by omega
 rw [zOf_end,ha]
 omega
set_option maxRecDepth 20000 in
set_option maxHeartbeats 2000000 in
theorem c_impl_elements (c : Crk) (a b : Int) (h : 0 ≤ a ∧ a ≤ b ∧ b ≤ c.vals.length ∧ c.rows.length = c.vals.length ∧ c.vals.length ≤ 64) : EFn Try.prog 156 [.agg (crkC c), .c (.sc (.int .i64 a)), .c (.sc (.int .i64 b))] [] (fun r S => r = .c (.sl 0 0 (b - a).toNat (b - a).toNat) ∧ S = [.row 196 2 (pairs (elemsN c a (b - a).toNat))]) := by
 refine E_fn Try.func156 rfl (Nat.le_of_ble_eq_true rfl) ?_
 refine E_seq ?_
 refine E_region' (L:=[0,1]) rfl ?_
 refine x_box rfl rfl rfl rfl rfl ?_
 refine xas ?_
 refine EOps_nil ?_
 refine E_seq ?_
 refine E_region' (L:=[0,1]) rfl ?_
 refine EOps_go rfl rfl (Heavy.op (H_bslice rfl rfl (by decide) sl_169 ty_196 za_196 ⟨rfl,by decide⟩ (by decide) rfl rfl rfl rfl ?_))
 refine xas ?_
 refine EOps_nil ?_
 refine E_seq ?_
 refine E_seq ?_
 refine E_region' (L:=[0,1]) rfl ?_
 refine xmv ?_
 refine xas ?_
 refine EOps_nil ?_
 refine E_block ?_
 refine e_for (α:=Nat) [0,1,2,3,6] (fun k=>[(8,.c (.sc (.int .i64 ((a+k))))),(7,.c (.sl 1 0 k k))]) (fun k=>[.box (crkC c),.row 196 2 (pairs (elemsN c a k))]) (fun k=>a+k≤b) (fun k=>(b - a).toNat - k) (0) ?_ (rfl) ⟨.inr (int_eq (by simp)),.inr rfl,trivial⟩ ?_
 ·show a+((0:Nat):Int)≤b;omega
 rintro k hk
 refine E_seq ?_
 refine E_seq ?_
 refine E_region' (L:=[0,1,2]) rfl ?_
 refine xmv ?_
 refine xmv ?_
 refine p_ rfl (L_bin rfl rfl rfl rfl) ?_
 refine EOps_nil ?_
 refine E_cond rfl (fun hc13=>?_) (fun hc13=>?_)
 ·have hlt : a + (k : Int) < b := by simpa using hc13
  obtain⟨x,hx⟩:=at_lt (l:=c.vals) (k:=(a+(k:Int)).toNat) (by omega)
  obtain⟨y,hy⟩:=at_lt (l:=c.rows) (k:=(a+(k:Int)).toNat) (by omega)
  have hel:elI c (a+k)=(x,y):=by rw [elI,getD_of hx,getD_of hy]
  have hpl:(pairs (elemsN c a k)).length=k:=by rw [pairs_len,elemsN_len]
  refine E_skip ?_
  refine E_seq ?_
  refine E_block ?_
  refine E_drawT mixed ?_
  refine tj_ 0 rfl (L_move rfl) ?_
  refine tj_ 1 rfl (l_field rfl fo_27_0) ?_
  refine tl_ 2 rfl (L_load rfl (xb0 ty_24)) ?_
  refine tj_ 3 rfl (L_move rfl) ?_
  refine tj_ 4 rfl (L_index rfl rfl (xii sl_24 ty_3)) ?_
  refine tl_ 5 rfl (L_load rfl (xb0 ty_3)) ?_
  refine tj_ 6 rfl (l_field rfl fo_27_1) ?_
  refine tl_ 7 rfl (L_load rfl (xb0 ty_24)) ?_
  refine tj_ 8 rfl (L_move rfl) ?_
  refine tj_ 9 rfl (L_index rfl rfl (xii sl_24 ty_3)) ?_
  refine tl_ 10 rfl (L_load rfl (xb0 ty_3)) ?_
  refine tj_ 11 rfl (L_build rfl bd_196 rfl rfl) ?_
  refine t_turn 12 rfl rfl (Heavy.op (H_bslice_ro rfl rfl (by decide) sl_169 ty_196 za_196 ⟨rfl,by decide⟩ (by decide) rfl rfl rfl rfl ?_))
  refine t_turn 13 rfl rfl (EOp_append (news:=[[T.sc (.int .i64 x),T.sc (.int .i64 y)]]) rfl rfl (by decide) sl_169 ty_196 by_196 za_196 ⟨rfl,by decide⟩ rfl (by first|rfl|assumption) xb7 xb8 xb9 xb10 ?_)
  refine tj_ 14 rfl (L_assign rfl) ?_
  refine T_done (by kernel_rfl) ?_
  refine E_region' (L:=[0,1,2]) rfl ?_
  refine xmv ?_
  refine p_ rfl xb2 ?_
  refine xas ?_
  refine EOps_nil ?_
  refine⟨k+1,?_,?_,by simp [elemsN,pairs,hel],⟨.inr (int_eq (by omega)),.inr rfl,trivial⟩,⟨.inr rfl,.inr rfl,.inr rfl,.inr rfl,.inr rfl,trivial⟩⟩
  ·first|omega|(dsimp only;omega)|(simp;omega)
  first|trivial|omega|(dsimp only;omega)|(simp;omega)
 have hge : b ≤ a + (k : Int) := by simpa using hc13
 have hkk:k=(b - a).toNat:=by omega
 refine E_exit ?_
 refine E_seq ?_
 refine E_region' (L:=[0,1]) rfl ?_
 refine xmv ?_
 refine xas ?_
 refine EOps_nil ?_
 refine E_ret ?_
 subst hkk
 exact⟨_,[1],rfl,rfl,rfl,rfl⟩

end Go.Proofs.Ytcepgfcolmdnoaa.E
