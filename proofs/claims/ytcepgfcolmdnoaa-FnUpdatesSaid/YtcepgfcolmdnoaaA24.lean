/- Walks through functions, by program out of the session's annotations. -/
import Derived.Test.YtcepgfcolmdnoaaA11
import Derived.Test.YtcepgfcolmdnoaaA05
import Derived.Test.YtcepgfcolmdnoaaA08
namespace Go.Proofs.Ytcepgfcolmdnoaa.E
open Go Go.RowKit Go.Proofs
set_option linter.unusedVariables false
set_option linter.unusedSimpArgs false

structure Pnd where
 ins:List (Int × Int)
 del:List Int
 deriving DecidableEq
def pndC (p:Pnd):List AC:=[.ro (pairs p.ins),.ro (ints p.del)]
def rowIx (xs:List Int) (x:Int):Int:=fIdx (fun y=>decide (x=y)) xs
def insIx (l:List (Int × Int)) (x:Int):Int:=rowIx (l.map (·.2)) x
def isItem (x:Int × Int):Bool:=isIn x.1 (-999) 999 && isIn x.2 0 999
theorem map_at {l:List (Int × Int)} {k:Nat} {p:Int × Int} (h:l[k]? = some p):(l.map (·.2))[k]? = some p.2:=by simp [h]

set_option maxRecDepth 20000 in
set_option maxHeartbeats 2000000 in
theorem c_impl_FindRow (c : Crk) (x : Int) : EFn Try.prog 117 [.agg (crkC c), .c (.sc (.int .i64 x))] [] (fun r S => r = .c (.sc (.int .i64 (rowIx c.rows x))) ∧ S = []) := by
 refine E_fn Try.func117 rfl (Nat.le_of_ble_eq_true rfl) ?_
 refine E_seq ?_
 refine E_region' (L:=[0,1]) rfl ?_
 refine x_box rfl rfl rfl rfl rfl ?_
 refine xas ?_
 refine EOps_nil ?_
 refine E_seq ?_
 refine e_tidy [0,1,2,4] ?_
 refine E_region' (L:=[0,1,2,3,4]) rfl ?_
 refine x_pure rfl rfl rfl (l_field rfl fo_27_1) ?_
 refine x_light rfl rfl rfl (L_load rfl (xb0 ty_24)) ?_
 refine xmv ?_
 refine x_call rfl rfl rfl rfl rfl ca_172 (c_slices_Index___int_int_ c.rows x) ?_
 rintro r S ⟨rfl,rfl⟩
 refine xas ?_
 refine EOps_nil ?_
 refine E_ret ?_
 exact⟨_,[],rfl,rfl,rfl,rfl⟩

set_option maxRecDepth 20000 in
set_option maxHeartbeats 2000000 in
theorem c_spec_FindRow (c : Crk) (x : Int) (hb : c.rows.length ≤ 9223372036854775807) : EFn Try.prog 46 [.agg (crkC c), .c (.sc (.int .i64 x))] [] (fun r S => r = .c (.sc (.int .i64 (rowIx c.rows x))) ∧ S = []) := by
 refine E_fn Try.func46 rfl (Nat.le_of_ble_eq_true rfl) ?_
 refine E_seq ?_
 refine E_region' (L:=[0,1]) rfl ?_
 refine x_box rfl rfl rfl rfl rfl ?_
 refine xas ?_
 refine EOps_nil ?_
 refine E_seq ?_
 refine E_seq ?_
 refine E_region' (L:=[0]) rfl ?_
 refine xas ?_
 refine EOps_nil ?_
 refine E_block ?_
 refine e_for (α:=Nat) [0,1,2] (fun k=>[(5,.c (.sc (.int .i64 (k))))]) (fun _=>_) (fun k=>k≤c.rows.length∧(c.rows.take k).any (fun y=>decide (x=y))=false) (fun k=>c.rows.length - k) (0) ?_ (rfl) ⟨.inr rfl,trivial⟩ ?_
 ·simp
 rintro k ⟨hk,hany⟩
 refine E_seq ?_
 refine E_seq ?_
 refine E_region' (L:=[0,1,2,3,4]) rfl ?_
 refine xmv ?_
 refine x_pure rfl rfl rfl (l_field rfl fo_27_1) ?_
 refine x_light rfl rfl rfl (L_load rfl (xb0 ty_24)) ?_
 refine x_pure rfl rfl rfl (l_len rfl sl_24) ?_
 refine x_pure rfl rfl rfl (L_bin rfl rfl rfl rfl) ?_
 refine EOps_nil ?_
 refine E_cond rfl (fun hc10=>?_) (fun hc10=>?_)
 ·have hc10' : k < (c.rows).length := by simpa [ints_len, bools_len, pairs_len, quads_len, quints_len] using hc10
  obtain⟨y,hy⟩:∃ x,(c.rows)[k]? = some x:=⟨_,List.getElem?_eq_getElem hc10'⟩
  refine E_skip ?_
  refine E_seq ?_
  refine E_block ?_
  refine E_seq ?_
  refine E_region' (L:=[0,1,2,3,4,5,6]) rfl ?_
  refine x_pure rfl rfl rfl (l_field rfl fo_27_1) ?_
  refine x_light rfl rfl rfl (L_load rfl (xb0 ty_24)) ?_
  refine xmv ?_
  refine x_pure rfl rfl rfl (L_index rfl rfl (by first|exact i_ro sl_24 ty_3|exact i_sl sl_24 ty_3)) ?_
  refine x_light rfl rfl rfl (L_load rfl (xb0 ty_3)) ?_
  refine xmv ?_
  refine x_pure rfl rfl rfl (L_bin rfl rfl rfl rfl) ?_
  refine EOps_nil ?_
  refine E_cond rfl (fun hc19=>?_) (fun hc19=>?_)
  ·have hxy : y = x := by simpa using hc19
   have he:=fIdx_at (p:=fun y=>decide (x=y)) hany hy (by simp [hxy])
   refine E_seq ?_
   refine E_region' (L:=[0,1]) rfl ?_
   refine xmv ?_
   refine xas ?_
   refine EOps_nil ?_
   refine E_ret ?_
   refine⟨_,[],rfl,rfl,int_eq ?_,rfl⟩
   exact he.symm
  ·refine E_skip ?_
   refine E_region' (L:=[0,1,2]) rfl ?_
   refine xmv ?_
   refine x_pure rfl rfl rfl xb3 ?_
   refine xas ?_
   refine EOps_nil ?_
   refine⟨k+1,?_,?_,rfl,⟨.inr rfl,trivial⟩,⟨.inr rfl,.inr rfl,.inr rfl,trivial⟩⟩
   ·first|omega|(dsimp only;omega)|(simp;omega)
   ·exact⟨by omega,any_take (p:=fun y=>decide (x=y)) hany hy (by simp at hc19;simp;omega)⟩
 ·have hk' : c.rows.length ≤ k := by simpa [ints_len] using hc10
  rw [List.take_of_length_le hk'] at hany
  have he:=fIdx_none hany
  refine E_exit ?_
  refine E_seq ?_
  refine E_region' (L:=[0]) rfl ?_
  refine xas ?_
  refine EOps_nil ?_
  refine E_ret ?_
  refine⟨_,[],rfl,rfl,int_eq ?_,rfl⟩
  exact he.symm

set_option maxRecDepth 20000 in
set_option maxHeartbeats 2000000 in
theorem c_spec_l11HasRow (p : Pnd) (x : Int) (hb : p.ins.length ≤ 4194304) : EFn Try.prog 115 [.agg (pndC p), .c (.sc (.int .i64 x))] [] (fun r S => r = .c (.sc (.int .i64 (insIx p.ins x))) ∧ S = []) := by
 refine E_fn Try.func115 rfl (Nat.le_of_ble_eq_true rfl) ?_
 refine E_seq ?_
 refine E_region' (L:=[0,1]) rfl ?_
 refine x_box rfl rfl rfl rfl rfl ?_
 refine xas ?_
 refine EOps_nil ?_
 refine E_seq ?_
 refine E_seq ?_
 refine E_region' (L:=[0]) rfl ?_
 refine xas ?_
 refine EOps_nil ?_
 refine E_block ?_
 refine e_for (α:=Nat) [0,1,2] (fun k=>[(5,.c (.sc (.int .i64 (k))))]) (fun _=>_) (fun k=>k≤p.ins.length∧((p.ins.map (·.2)).take k).any (fun y=>decide (x=y))=false) (fun k=>p.ins.length - k) (0) ?_ (rfl) ⟨.inr rfl,trivial⟩ ?_
 ·simp
 rintro k ⟨hk,hany⟩
 refine E_seq ?_
 refine E_seq ?_
 refine E_region' (L:=[0,1,2,3,4]) rfl ?_
 refine xmv ?_
 refine x_pure rfl rfl rfl (l_field rfl fo_58_0) ?_
 refine x_light rfl rfl rfl (L_load rfl (xb0 ty_56)) ?_
 refine x_pure rfl rfl rfl (l_len rfl sl_56) ?_
 refine x_pure rfl rfl rfl (L_bin rfl rfl rfl rfl) ?_
 refine EOps_nil ?_
 refine E_cond rfl (fun hc10=>?_) (fun hc10=>?_)
 ·have hc10' : k < (p.ins).length := by simpa [ints_len, bools_len, pairs_len, quads_len, quints_len] using hc10
  obtain⟨y,hy⟩:∃ x,(p.ins)[k]? = some x:=⟨_,List.getElem?_eq_getElem hc10'⟩
  have hy2:=map_at hy
  refine E_skip ?_
  refine E_seq ?_
  refine E_block ?_
  refine E_seq ?_
  refine E_region' (L:=[0,1,2,3,4,5,6,7]) rfl ?_
  refine x_pure rfl rfl rfl (l_field rfl fo_58_0) ?_
  refine x_light rfl rfl rfl (L_load rfl (xb0 ty_56)) ?_
  refine xmv ?_
  refine x_pure rfl rfl rfl (L_index rfl rfl (by first|exact i_ro sl_56 ty_60|exact i_sl sl_56 ty_60)) ?_
  refine x_pure rfl rfl rfl (l_field rfl fo_60_1) ?_
  refine x_light rfl rfl rfl (L_load rfl (xb0 ty_3)) ?_
  refine xmv ?_
  refine x_pure rfl rfl rfl (L_bin rfl rfl rfl rfl) ?_
  refine EOps_nil ?_
  refine E_cond rfl (fun hc20=>?_) (fun hc20=>?_)
  ·have hxy : y.2 = x := by simpa using hc20
   have he:=fIdx_at (p:=fun y=>decide (x=y)) hany hy2 (by simp [hxy])
   refine E_seq ?_
   refine E_region' (L:=[0,1]) rfl ?_
   refine xmv ?_
   refine xas ?_
   refine EOps_nil ?_
   refine E_ret ?_
   refine⟨_,[],rfl,rfl,int_eq ?_,rfl⟩
   exact he.symm
  ·refine E_skip ?_
   refine E_region' (L:=[0,1,2]) rfl ?_
   refine xmv ?_
   refine x_pure rfl rfl rfl xb3 ?_
   refine xas ?_
   refine EOps_nil ?_
   refine⟨k+1,?_,?_,rfl,⟨.inr rfl,trivial⟩,⟨.inr rfl,.inr rfl,.inr rfl,trivial⟩⟩
   ·first|omega|(dsimp only;omega)|(simp;omega)
   ·exact⟨by omega,any_take (p:=fun y=>decide (x=y)) hany hy2 (by simp at hc20;simp;omega)⟩
 ·have hk' : (p.ins.map (·.2)).length ≤ k := by simpa [pairs_len] using hc10
  rw [List.take_of_length_le hk'] at hany
  have he:=fIdx_none hany
  refine E_exit ?_
  refine E_seq ?_
  refine E_region' (L:=[0]) rfl ?_
  refine xas ?_
  refine EOps_nil ?_
  refine E_ret ?_
  refine⟨_,[],rfl,rfl,int_eq ?_,rfl⟩
  exact he.symm

set_option maxRecDepth 20000 in
set_option maxHeartbeats 2000000 in
theorem c_impl_IsItem (x : Int × Int) : EFn Try.prog 116 [.agg [.sc (.int .i64 x.1), .sc (.int .i64 x.2)]] [] (fun r S => r = .c (.sc (.bool (isItem x))) ∧ S = []) := by
 refine E_fn Try.func116 rfl (Nat.le_of_ble_eq_true rfl) ?_
 refine E_seq ?_
 refine E_region' (L:=[0,1]) rfl ?_
 refine x_box rfl rfl rfl rfl rfl ?_
 refine xas ?_
 refine EOps_nil ?_
 refine E_seq ?_
 refine E_region' (L:=[0,1,2,3,4,5,6,7,8,9,10,11,12,13,14,15,16,17,18]) rfl ?_
 refine x_pure rfl rfl rfl (l_field rfl fo_60_0) ?_
 refine x_light rfl rfl rfl (L_load rfl (xb0 ty_3)) ?_
 refine x_pure rfl rfl rfl (L_bin rfl rfl rfl rfl) ?_
 refine xmv ?_
 refine EOps_split 6 (b:=_) rfl (fun hg6=>?_) (fun hg6=>?_)
 ·refine x_pure rfl rfl rfl (l_field rfl fo_60_0) ?_
  refine x_light rfl rfl rfl (L_load rfl (xb0 ty_3)) ?_
  refine x_pure rfl rfl rfl (L_bin rfl rfl rfl rfl) ?_
  refine x_pure rfl rfl rfl (L_pick rfl rfl) ?_
  refine xmv ?_
  refine EOps_split 11 (b:=_) rfl (fun hg11=>?_) (fun hg11=>?_)
  ·refine x_pure rfl rfl rfl (l_field rfl fo_60_1) ?_
   refine x_light rfl rfl rfl (L_load rfl (xb0 ty_3)) ?_
   refine x_pure rfl rfl rfl (L_bin rfl rfl rfl rfl) ?_
   refine x_pure rfl rfl rfl (L_pick rfl rfl) ?_
   refine xmv ?_
   refine EOps_split 16 (b:=_) rfl (fun hg16=>?_) (fun hg16=>?_)
   ·refine x_pure rfl rfl rfl (l_field rfl fo_60_1) ?_
    refine x_light rfl rfl rfl (L_load rfl (xb0 ty_3)) ?_
    refine x_pure rfl rfl rfl (L_bin rfl rfl rfl rfl) ?_
    refine x_pure rfl rfl rfl (L_pick rfl rfl) ?_
    refine xas ?_
    refine EOps_nil ?_
    refine E_ret ?_
    refine⟨_,[],rfl,rfl,bool_eq ?_,rfl⟩
    first|(simp_all [isItem,isIn];done)|(simp_all [isItem,isIn];intros;omega)
   ·refine x_skip rfl rfl rfl ?_
    refine x_skip rfl rfl rfl ?_
    refine x_skip rfl rfl rfl ?_
    refine x_pure rfl rfl rfl (L_pick rfl rfl) ?_
    refine xas ?_
    refine EOps_nil ?_
    refine E_ret ?_
    refine⟨_,[],rfl,rfl,bool_eq ?_,rfl⟩
    first|(simp_all [isItem,isIn];done)|(simp_all [isItem,isIn];intros;omega)
  ·refine x_skip rfl rfl rfl ?_
   refine x_skip rfl rfl rfl ?_
   refine x_skip rfl rfl rfl ?_
   refine x_pure rfl rfl rfl (L_pick rfl rfl) ?_
   refine xmv ?_
   refine x_skip rfl rfl rfl ?_
   refine x_skip rfl rfl rfl ?_
   refine x_skip rfl rfl rfl ?_
   refine x_pure rfl rfl rfl (L_pick rfl rfl) ?_
   refine xas ?_
   refine EOps_nil ?_
   refine E_ret ?_
   refine⟨_,[],rfl,rfl,bool_eq ?_,rfl⟩
   first|(simp_all [isItem,isIn];done)|(simp_all [isItem,isIn];intros;omega)
 ·refine x_skip rfl rfl rfl ?_
  refine x_skip rfl rfl rfl ?_
  refine x_skip rfl rfl rfl ?_
  refine x_pure rfl rfl rfl (L_pick rfl rfl) ?_
  refine xmv ?_
  refine x_skip rfl rfl rfl ?_
  refine x_skip rfl rfl rfl ?_
  refine x_skip rfl rfl rfl ?_
  refine x_pure rfl rfl rfl (L_pick rfl rfl) ?_
  refine xmv ?_
  refine x_skip rfl rfl rfl ?_
  refine x_skip rfl rfl rfl ?_
  refine x_skip rfl rfl rfl ?_
  refine x_pure rfl rfl rfl (L_pick rfl rfl) ?_
  refine xas ?_
  refine EOps_nil ?_
  refine E_ret ?_
  refine⟨_,[],rfl,rfl,bool_eq ?_,rfl⟩
  first|(simp_all [isItem,isIn];done)|(simp_all [isItem,isIn];intros;omega)

set_option maxRecDepth 20000 in
set_option maxHeartbeats 2000000 in
theorem c_spec_IsItem (x : Int × Int) : EFn Try.prog 174 [.agg [.sc (.int .i64 x.1), .sc (.int .i64 x.2)]] [] (fun r S => r = .c (.sc (.bool (isItem x))) ∧ S = []) := by
 refine E_fn Try.func174 rfl (Nat.le_of_ble_eq_true rfl) ?_
 refine E_seq ?_
 refine E_region' (L:=[0,1]) rfl ?_
 refine x_box rfl rfl rfl rfl rfl ?_
 refine xas ?_
 refine EOps_nil ?_
 refine E_seq ?_
 refine e_tidy [0,1,2] ?_
 refine E_region' (L:=[0,1,2,3,4,5,6,7,8]) rfl ?_
 refine x_pure rfl rfl rfl (l_field rfl fo_60_0) ?_
 refine x_light rfl rfl rfl (L_load rfl (xb0 ty_3)) ?_
 refine x_call rfl rfl rfl rfl rfl ca_81 (c_spec_l1In x.1 (-999) 999) ?_
 rintro r S ⟨rfl,rfl⟩
 refine xmv ?_
 refine EOps_split 6 (b:=_) rfl (fun hg6=>?_) (fun hg6=>?_)
 ·refine x_pure rfl rfl rfl (l_field rfl fo_60_1) ?_
  refine x_light rfl rfl rfl (L_load rfl (xb0 ty_3)) ?_
  refine x_call rfl rfl rfl rfl rfl ca_81 (c_spec_l1In x.2 0 999) ?_
  rintro r S ⟨rfl,rfl⟩
  refine x_pure rfl rfl rfl (L_pick rfl rfl) ?_
  refine xas ?_
  refine EOps_nil ?_
  refine E_ret ?_
  refine⟨_,[],rfl,rfl,bool_eq ?_,rfl⟩
  first|(simp_all [isItem];done)|(simp_all [isItem,isIn];intros;omega)
 ·refine x_skip rfl rfl rfl ?_
  refine x_skip rfl rfl rfl ?_
  refine x_skip rfl rfl rfl ?_
  refine x_pure rfl rfl rfl (L_pick rfl rfl) ?_
  refine xas ?_
  refine EOps_nil ?_
  refine E_ret ?_
  refine⟨_,[],rfl,rfl,bool_eq ?_,rfl⟩
  first|(simp_all [isItem];done)|(simp_all [isItem,isIn];intros;omega)

end Go.Proofs.Ytcepgfcolmdnoaa.E
