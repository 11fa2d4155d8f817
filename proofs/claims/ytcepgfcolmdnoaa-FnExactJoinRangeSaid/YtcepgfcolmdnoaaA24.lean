/- Walks through functions, by program out of the session's annotations. -/
import Derived.Test.YtcepgfcolmdnoaaA11
import Derived.Test.YtcepgfcolmdnoaaA06
import Derived.Test.YtcepgfcolmdnoaaA09
namespace Go.Proofs.Ytcepgfcolmdnoaa.E
open Go Go.RowKit Go.Proofs
set_option linter.unusedVariables false
set_option linter.unusedSimpArgs false

structure Pnd where
 ins:List (Int × Int)
 del:List Int
 deriving DecidableEq
def rowIx (xs:List Int) (x:Int):Int:=fIdx (fun y=>decide (x=y)) xs
set_option maxRecDepth 20000 in
set_option maxHeartbeats 2000000 in
theorem c_spec_FindRow (c : Crk) (x : Int) (hb : c.rows.length ≤ 9223372036854775807) : EFn Try.prog 46 [.agg (crkC c), .c (.sc (.int .i64 x))] [] (fun r S => r = .c (.sc (.int .i64 (rowIx c.rows x))) ∧ S = []) := by
 refine E_fn Try.func46 rfl (Nat.le_of_ble_eq_true rfl) ?_
 refine E_seq ?_
 refine E_region' (L:=[0,1]) rfl ?_
 refine x_box rfl rfl rfl rfl rfl ?_
 refine xas ?_
 refine EOps_nil ?_
 refine E_seq ?_
 refine E_seq ?_
 refine E_region' (L:=[0]) rfl ?_
 refine xas ?_
 refine EOps_nil ?_
 refine E_block ?_
 refine e_for (α:=Nat) [0,1,2] (fun k=>[(5,.c (.sc (.int .i64 (k))))]) (fun _=>_) (fun k=>k≤c.rows.length∧(c.rows.take k).any (fun y=>decide (x=y))=false) (fun k=>c.rows.length - k) (0) ?_ (rfl) ⟨.inr rfl,trivial⟩ ?_
 ·simp
 rintro k ⟨hk,hany⟩
 refine E_seq ?_
 refine E_seq ?_
 refine E_region' (L:=[0,1,2,3,4]) rfl ?_
 refine xmv ?_
 refine p_ rfl (l_field rfl fo_27_1) ?_
 refine l_ rfl (L_load rfl (xb0 ty_24)) ?_
 refine p_ rfl (l_len rfl sl_24) ?_
 refine p_ rfl (L_bin rfl rfl rfl rfl) ?_
 refine EOps_nil ?_
 refine E_cond rfl (fun hc10=>?_) (fun hc10=>?_)
 ·have hc10' : k < (c.rows).length := by simpa [ints_len, bools_len, pairs_len, quads_len, quints_len] using hc10
  obtain⟨y,hy⟩:∃ x,(c.rows)[k]? = some x:=⟨_,List.getElem?_eq_getElem hc10'⟩
  refine E_skip ?_
  refine E_seq ?_
  refine E_block ?_
  refine E_seq ?_
  refine E_region' (L:=[0,1,2,3,4,5,6]) rfl ?_
  refine p_ rfl (l_field rfl fo_27_1) ?_
  refine l_ rfl (L_load rfl (xb0 ty_24)) ?_
  refine xmv ?_
  refine p_ rfl (L_index rfl rfl (xii sl_24 ty_3)) ?_
  refine l_ rfl (L_load rfl (xb0 ty_3)) ?_
  refine xmv ?_
  refine p_ rfl (L_bin rfl rfl rfl rfl) ?_
  refine EOps_nil ?_
  refine E_cond rfl (fun hc19=>?_) (fun hc19=>?_)
  ·have hxy : y = x := by simpa using hc19
   have he:=fIdx_at (p:=fun y=>decide (x=y)) hany hy (by simp [hxy])
   refine E_seq ?_
   refine E_region' (L:=[0,1]) rfl ?_
   refine xmv ?_
   refine xas ?_
   refine EOps_nil ?_
   refine E_ret ?_
   refine⟨_,[],rfl,rfl,int_eq ?_,rfl⟩
   exact he.symm
  refine E_skip ?_
  refine E_region' (L:=[0,1,2]) rfl ?_
  refine xmv ?_
  refine p_ rfl xb2 ?_
  refine xas ?_
  refine EOps_nil ?_
  refine⟨k+1,?_,?_,rfl,⟨.inr rfl,trivial⟩,⟨.inr rfl,.inr rfl,.inr rfl,trivial⟩⟩
  ·first|omega|(dsimp only;omega)|(simp;omega)
  exact⟨by omega,any_take (p:=fun y=>decide (x=y)) hany hy (by simp at hc19;simp;omega)⟩
 have hk' : c.rows.length ≤ k := by simpa [ints_len] using hc10
 rw [List.take_of_length_le hk'] at hany
 have he:=fIdx_none hany
 refine E_exit ?_
 refine E_seq ?_
 refine E_region' (L:=[0]) rfl ?_
 refine xas ?_
 refine EOps_nil ?_
 refine E_ret ?_
 refine⟨_,[],rfl,rfl,int_eq ?_,rfl⟩
 exact he.symm

end Go.Proofs.Ytcepgfcolmdnoaa.E
