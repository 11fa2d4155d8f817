/- Walks through functions, by program out of the session's annotations. -/
import Derived.Test.YtcepgfcolmdnoaaA02
namespace Go.Proofs.Ytcepgfcolmdnoaa.E
open Go Go.RowKit Go.Proofs
set_option linter.unusedVariables false
set_option linter.unusedSimpArgs false

def minF (a:Int) (xs:List Int):Int:=xs.foldl (fun m v=>if v<m then v else m) a
def maxF (a:Int) (xs:List Int):Int:=xs.foldl (fun m v=>if m<v then v else m) a
def minL : List Int → Int
 | []=>0
 | x::t=>minF x t
def maxL : List Int → Int
 | []=>0
 | x::t=>maxF x t
theorem minL_snoc {l : List Int} (h : l ≠ []) (x : Int) : minL (l ++ [x]) = if x < minL l then x else minL l := by
 cases l with
 | nil=>exact absurd rfl h
 | cons a t=>rw [List.cons_append];simp only [minL,minF,List.foldl_append];rfl
theorem maxL_snoc {l : List Int} (h : l ≠ []) (x : Int) : maxL (l ++ [x]) = if maxL l < x then x else maxL l := by
 cases l with
 | nil=>exact absurd rfl h
 | cons a t=>rw [List.cons_append];simp only [maxL,maxF,List.foldl_append];rfl
theorem take_snoc {α : Type} {xs : List α} {k : Nat} {x : α} (hx : xs[k]? = some x) : xs.take (k + 1) = xs.take k ++ [x] := by
 rw [List.take_add_one,hx];rfl
theorem areVals_parts {xs : List Int} (h : areVals xs = true) : xs.length ≤ 64 ∧ ∀ x ∈ xs, -999 ≤ x ∧ x ≤ 999 := by
 simpa [areVals] using h
set_option maxRecDepth 20000 in
set_option maxHeartbeats 2000000 in
theorem c_slices_Min___int_int_ (xs : List Int) (h : 0 < xs.length ∧ xs.length ≤ 1048576) : EFn Try.prog 133 [.c (.ro (ints xs))] [] (fun r S => r = .c (.sc (.int .i64 (minL xs))) ∧ S = []) := by
 refine E_fn Try.func133 rfl (Nat.le_of_ble_eq_true rfl) ?_
 obtain⟨x0,hx0⟩:∃ x,xs[0]? = some x:=⟨_,List.getElem?_eq_getElem h.1⟩
 have hm0:x0=minL (xs.take 1):=by rw [take_snoc hx0];rfl
 refine E_seq ?_
 refine E_region' (L:=[0]) rfl ?_
 refine xas ?_
 refine EOps_nil ?_
 refine E_seq ?_
 refine E_seq ?_
 refine E_region' (L:=[0,1,2]) rfl ?_
 refine xmv ?_
 refine p_ rfl (l_len rfl sl_24) ?_
 refine p_ rfl (L_bin rfl rfl rfl rfl) ?_
 refine EOps_nil ?_
 refine E_cond rfl (fun hc7=>?_) (fun hc7=>?_)
 ·(exfalso;simp [ints_len] at hc7;omega)
 refine E_skip ?_
 refine E_seq ?_
 refine E_region' (L:=[0,1,2,3]) rfl ?_
 refine xmv ?_
 refine p_ rfl (L_index rfl rfl (xii sl_24 ty_3)) ?_
 refine l_ rfl (L_load rfl (xb0 ty_3)) ?_
 refine xas ?_
 refine EOps_nil ?_
 refine E_seq ?_
 refine E_seq ?_
 refine E_region' (L:=[0]) rfl ?_
 refine xas ?_
 refine EOps_nil ?_
 refine E_block ?_
 refine e_for (α:=Nat) [0,2,7] (fun k=>[(4,.c (.sc (.int .i64 (k)))),(3,.c (.sc (.int .i64 ((minL (xs.take k))))))]) (fun _=>_) (fun k=>1≤k∧k≤xs.length) (fun k=>xs.length - k) (1) ?_ (rfl) ⟨.inr rfl,.inr (int_eq hm0),trivial⟩ ?_
 ·exact⟨Nat.le_refl _,h.1⟩
 rintro k hk
 refine E_seq ?_
 refine E_seq ?_
 refine E_region' (L:=[0,1,2,3]) rfl ?_
 refine xmv ?_
 refine xmv ?_
 refine p_ rfl (l_len rfl sl_24) ?_
 refine p_ rfl (L_bin rfl rfl rfl rfl) ?_
 refine EOps_nil ?_
 refine E_cond rfl (fun hc15=>?_) (fun hc15=>?_)
 ·have hc15' : k < (xs).length := by simpa [ints_len, bools_len, pairs_len, quads_len, quints_len] using hc15
  obtain⟨x,hx⟩:∃ x,(xs)[k]? = some x:=⟨_,List.getElem?_eq_getElem hc15'⟩
  have hne:xs.take k ≠ []:=by intro e;rw [← List.length_eq_zero_iff,List.length_take] at e;omega
  have hsn:=minL_snoc hne x
  rw [← take_snoc hx] at hsn
  refine E_skip ?_
  refine E_seq ?_
  refine E_block ?_
  refine E_region' (L:=[0,1,2,3,4,5,6]) rfl ?_
  refine xmv ?_
  refine xmv ?_
  refine xmv ?_
  refine p_ rfl (L_index rfl rfl (xii sl_24 ty_3)) ?_
  refine l_ rfl (L_load rfl (xb0 ty_3)) ?_
  refine p_ rfl (L_min rfl rfl rfl) ?_
  refine xas ?_
  refine EOps_nil ?_
  refine E_region' (L:=[0,1,2]) rfl ?_
  refine xmv ?_
  refine p_ rfl xb2 ?_
  refine xas ?_
  refine EOps_nil ?_
  refine⟨k+1,?_,?_,rfl,⟨.inr rfl,.inr (int_eq hsn.symm),trivial⟩,⟨.inr rfl,.inr rfl,.inr rfl,trivial⟩⟩
  ·first|omega|(dsimp only;omega)|(simp;omega)
  first|trivial|omega|(dsimp only;omega)|(simp;omega)
 have hk' : xs.length ≤ k := by simpa [ints_len] using hc15
 have he:=List.take_of_length_le hk'
 refine E_exit ?_
 refine E_seq ?_
 refine E_region' (L:=[0,1]) rfl ?_
 refine xmv ?_
 refine xas ?_
 refine EOps_nil ?_
 refine E_ret ?_
 refine⟨_,[],rfl,rfl,int_eq ?_,rfl⟩
 exact congrArg minL he

set_option maxRecDepth 20000 in
set_option maxHeartbeats 2000000 in
theorem c_slices_Max___int_int_ (xs : List Int) (h : 0 < xs.length ∧ xs.length ≤ 1048576) : EFn Try.prog 134 [.c (.ro (ints xs))] [] (fun r S => r = .c (.sc (.int .i64 (maxL xs))) ∧ S = []) := by
 refine E_fn Try.func134 rfl (Nat.le_of_ble_eq_true rfl) ?_
 obtain⟨x0,hx0⟩:∃ x,xs[0]? = some x:=⟨_,List.getElem?_eq_getElem h.1⟩
 have hm0:x0=maxL (xs.take 1):=by rw [take_snoc hx0];rfl
 refine E_seq ?_
 refine E_region' (L:=[0]) rfl ?_
 refine xas ?_
 refine EOps_nil ?_
 refine E_seq ?_
 refine E_seq ?_
 refine E_region' (L:=[0,1,2]) rfl ?_
 refine xmv ?_
 refine p_ rfl (l_len rfl sl_24) ?_
 refine p_ rfl (L_bin rfl rfl rfl rfl) ?_
 refine EOps_nil ?_
 refine E_cond rfl (fun hc7=>?_) (fun hc7=>?_)
 ·(exfalso;simp [ints_len] at hc7;omega)
 refine E_skip ?_
 refine E_seq ?_
 refine E_region' (L:=[0,1,2,3]) rfl ?_
 refine xmv ?_
 refine p_ rfl (L_index rfl rfl (xii sl_24 ty_3)) ?_
 refine l_ rfl (L_load rfl (xb0 ty_3)) ?_
 refine xas ?_
 refine EOps_nil ?_
 refine E_seq ?_
 refine E_seq ?_
 refine E_region' (L:=[0]) rfl ?_
 refine xas ?_
 refine EOps_nil ?_
 refine E_block ?_
 refine e_for (α:=Nat) [0,2,7] (fun k=>[(4,.c (.sc (.int .i64 (k)))),(3,.c (.sc (.int .i64 ((maxL (xs.take k))))))]) (fun _=>_) (fun k=>1≤k∧k≤xs.length) (fun k=>xs.length - k) (1) ?_ (rfl) ⟨.inr rfl,.inr (int_eq hm0),trivial⟩ ?_
 ·exact⟨Nat.le_refl _,h.1⟩
 rintro k hk
 refine E_seq ?_
 refine E_seq ?_
 refine E_region' (L:=[0,1,2,3]) rfl ?_
 refine xmv ?_
 refine xmv ?_
 refine p_ rfl (l_len rfl sl_24) ?_
 refine p_ rfl (L_bin rfl rfl rfl rfl) ?_
 refine EOps_nil ?_
 refine E_cond rfl (fun hc15=>?_) (fun hc15=>?_)
 ·have hc15' : k < (xs).length := by simpa [ints_len, bools_len, pairs_len, quads_len, quints_len] using hc15
  obtain⟨x,hx⟩:∃ x,(xs)[k]? = some x:=⟨_,List.getElem?_eq_getElem hc15'⟩
  have hne:xs.take k ≠ []:=by intro e;rw [← List.length_eq_zero_iff,List.length_take] at e;omega
  have hsn:=maxL_snoc hne x
  rw [← take_snoc hx] at hsn
  refine E_skip ?_
  refine E_seq ?_
  refine E_block ?_
  refine E_region' (L:=[0,1,2,3,4,5,6]) rfl ?_
  refine xmv ?_
  refine xmv ?_
  refine xmv ?_
  refine p_ rfl (L_index rfl rfl (xii sl_24 ty_3)) ?_
  refine l_ rfl (L_load rfl (xb0 ty_3)) ?_
  refine p_ rfl (L_max rfl rfl rfl) ?_
  refine xas ?_
  refine EOps_nil ?_
  refine E_region' (L:=[0,1,2]) rfl ?_
  refine xmv ?_
  refine p_ rfl xb2 ?_
  refine xas ?_
  refine EOps_nil ?_
  refine⟨k+1,?_,?_,rfl,⟨.inr rfl,.inr (int_eq hsn.symm),trivial⟩,⟨.inr rfl,.inr rfl,.inr rfl,trivial⟩⟩
  ·first|omega|(dsimp only;omega)|(simp;omega)
  first|trivial|omega|(dsimp only;omega)|(simp;omega)
 have hk' : xs.length ≤ k := by simpa [ints_len] using hc15
 have he:=List.take_of_length_le hk'
 refine E_exit ?_
 refine E_seq ?_
 refine E_region' (L:=[0,1]) rfl ?_
 refine xmv ?_
 refine xas ?_
 refine EOps_nil ?_
 refine E_ret ?_
 refine⟨_,[],rfl,rfl,int_eq ?_,rfl⟩
 exact congrArg maxL he

end Go.Proofs.Ytcepgfcolmdnoaa.E
