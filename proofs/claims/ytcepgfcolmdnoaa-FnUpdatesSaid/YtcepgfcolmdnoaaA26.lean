/- Walks through functions, by program out of the session's annotations. -/
import Derived.Test.YtcepgfcolmdnoaaA25
namespace Go.Proofs.Ytcepgfcolmdnoaa.E
open Go Go.RowKit Go.Proofs
set_option linter.unusedVariables false
set_option linter.unusedSimpArgs false

theorem pb_of {R:List Res} {i off:Nat} {cs:List AC} (h:R[i]? = some (.box cs)):ptrOk R (.c (.bp i off))=true:=by simp [ptrOk,h]
theorem any_mem (l : List Int) (x : Int) : l.any (fun y => decide (y = x)) = decide (x ∈ l) := by
  rw [Bool.eq_iff_iff,List.any_eq_true,decide_eq_true_eq]
  exact ⟨fun ⟨y, hy, e⟩ => by have : y = x := by simpa using e
                              exact this ▸ hy,fun h=>⟨x,h,by simp⟩⟩

set_option maxRecDepth 20000 in
set_option maxHeartbeats 2000000 in
theorem c_impl_IsPending_1 (R : List Res) (i : Nat) (a b : Int) (y : Int × Int) (h1 : R[i]? = some (.box [.sc (.int .i64 a), .sc (.int .i64 b)])) : EFn Try.prog 119 [.agg [.sc (.int .i64 y.1), .sc (.int .i64 y.2)], .c (.bp i 0)] R (fun r R' => r = .c (.sc (.bool (decide (y.2 = b)))) ∧ R' = R) := by
 refine E_fnM Try.func119 rfl (Nat.le_of_ble_eq_true rfl) ?_
 have e1:(R++[Res.box [AC.sc (.int .i64 y.1),AC.sc (.int .i64 y.2)]])[R.length]? = some (.box [AC.sc (.int .i64 y.1),AC.sc (.int .i64 y.2)]):=by simp
 have e2 : (R ++ [Res.box [AC.sc (.int .i64 y.1), AC.sc (.int .i64 y.2)]])[i]? = some (.box [AC.sc (.int .i64 a), AC.sc (.int .i64 b)]) := by
  have hi:i<R.length:=(List.getElem?_eq_some_iff.1 h1).1
  rw [List.getElem?_append_left hi];exact h1
 refine E_seq ?_
 refine E_region' (L:=[0,1]) rfl ?_
 refine x_box rfl rfl rfl rfl rfl ?_
 refine xas ?_
 refine EOps_nil ?_
 refine E_seq ?_
 refine E_region' (L:=[0,1,2,3,4,5]) rfl ?_
 refine x_pure rfl rfl rfl (l_field rfl fo_60_1 (hp:=pb_of e1)) ?_
 refine x_light rfl rfl rfl (L_load rfl (d_bp ty_3 (hR:=e1))) ?_
 refine x_pure rfl rfl rfl (l_field rfl fo_60_1 (hp:=pb_of e2)) ?_
 refine x_light rfl rfl rfl (L_load rfl (d_bp ty_3 (hR:=e2))) ?_
 refine x_pure rfl rfl rfl (L_bin rfl rfl rfl rfl) ?_
 refine xas ?_
 refine EOps_nil ?_
 refine E_ret ?_
 refine⟨_,rfl,⟨by simp,fun i cs hi h=>by rw [List.getElem?_append_left hi] at h;exact h⟩,?_,by simp⟩
 simp [AV.ren,ren_sc,ren_ro,AC.ren,AC.ren.rens,ix,rv1,E.get,E.ev,E.cv,E.fill',E.fill,E.slotsOf,AV.ren]
 rfl

set_option maxRecDepth 20000 in
set_option maxHeartbeats 2000000 in
theorem c_slices_IndexFunc___impl_Item_impl_Item_ (xs : List (Int × Int)) (q : Int → Bool) (f : FuncId) (caps : List AC) (R : List Res) (hf : callable Try.prog f = true) (hp : ∀ x ∈ xs, EFn Try.prog f (.agg [.sc (.int .i64 x.1), .sc (.int .i64 x.2)] :: caps.map .c) R (fun r R' => r = .c (.sc (.bool (q x.2))) ∧ R' = R)) : EFn Try.prog 110 [.c (.ro (pairs xs)), .c (.fn f caps)] R (fun r R' => r = .c (.sc (.int .i64 (fIdx q (xs.map (·.2))))) ∧ R' = R) := by
 refine E_fnS Try.func110 rfl (Nat.le_of_ble_eq_true rfl) ?_
 refine E_bound (t:=0) (rows:=pairs xs) rfl fun hb=>?_
 rw [pairs_len] at hb
 refine E_seq ?_
 refine E_region' (L:=[0]) rfl ?_
 refine xas ?_
 refine EOps_nil ?_
 refine E_seq ?_
 refine E_seq ?_
 refine E_region' (L:=[0,1,2]) rfl ?_
 refine xmv ?_
 refine x_pure rfl rfl rfl (l_len rfl sl_56) ?_
 refine xmv ?_
 refine EOps_nil ?_
 refine E_block ?_
 refine e_for (α:=Nat) [0,1,7] (fun k=>[(8,.c (.sc (.int .i64 (k)))),(5,.any)]) (fun _=>_) (fun k=>k≤xs.length∧((xs.map (·.2)).take k).any q=false) (fun k=>xs.length - k) (0) ?_ (rfl) ⟨.inr rfl,.inl rfl,trivial⟩ ?_
 ·simp
 rintro k ⟨hk,hany⟩
 refine E_seq ?_
 refine E_region' (L:=[0]) rfl ?_
 refine x_pure rfl rfl rfl (L_bin rfl rfl rfl rfl) ?_
 refine EOps_nil ?_
 refine E_seq ?_
 refine E_cond rfl (fun hc9=>?_) (fun hc9=>?_)
 ·have hc9' : k < (xs).length := by simpa [ints_len, bools_len, pairs_len, quads_len, quints_len] using hc9
  obtain⟨x,hx⟩:∃ x,(xs)[k]? = some x:=⟨_,List.getElem?_eq_getElem hc9'⟩
  refine E_skip ?_
  refine E_seq ?_
  refine E_block ?_
  refine E_seq ?_
  refine E_region' (L:=[0,1]) rfl ?_
  refine xmv ?_
  refine xas ?_
  refine EOps_nil ?_
  refine E_seq ?_
  refine E_region' (L:=[0,1,2,3,4,5]) rfl ?_
  refine xmv ?_
  refine xmv ?_
  refine xmv ?_
  refine x_pure rfl rfl rfl (L_index rfl rfl (by first|exact i_ro sl_56 ty_60|exact i_sl sl_56 ty_60)) ?_
  refine x_light rfl rfl rfl (L_load rfl (xb0 ty_60)) ?_
  refine EOps_go rfl rfl (EOp_call1 rfl rfl (by decide) rfl (by assumption) ((hp x (List.mem_of_getElem? hx))) (by refine cons_eq ?_ (rfl)<;>first|(refine lend_whole rfl ?_;first|assumption|exact ints_len _|exact pairs_len _|exact quads_len _|exact quints_len _|exact bools_len _|(simp [ints_len,bools_len,pairs_len,quads_len,quints_len,part_len, *];done)|(simp [ints_len,bools_len,pairs_len,quads_len,quints_len];omega)|rfl)|(refine agg_eq ?_;repeat' (first|(refine lendC_whole rfl ?_;first|assumption|exact ints_len _|exact pairs_len _|exact quads_len _|exact quints_len _|exact bools_len _|(simp [ints_len,bools_len,pairs_len,quads_len,quints_len,part_len, *];done)|(simp [ints_len,bools_len,pairs_len,quads_len,quints_len];omega)|rfl)|refine cons_eq ?_ ?_|rfl))|rfl|simp [E.lend,E.lendC,E.ev,E.cv,E.get,E.fill',E.fill,AV.sh,AC.sh,Res.sh,ints_len, *]) ?_)
  rintro r S ⟨rfl,rfl⟩
  refine EOps_nil ?_
  refine E_cond rfl (fun hc16=>?_) (fun hc16=>?_)
  ·have he := fIdx_at hany (map_at hx) hc16
   refine E_seq ?_
   refine E_region' (L:=[0,1]) rfl ?_
   refine xmv ?_
   refine xas ?_
   refine EOps_nil ?_
   refine E_ret ?_
   refine⟨_,rfl,rfl,?_⟩
   first|(simp [AV.ren,ren_sc,ren_ro,AC.ren,AC.ren.rens,ix,rv1,E.get,E.ev,E.cv,E.fill',E.fill,E.slotsOf, *];done)|simp_all [AV.ren,ren_sc,ren_ro,AC.ren,AC.ren.rens,ix,rv1,E.get,E.ev,E.cv,E.fill',E.fill,E.slotsOf]
  ·refine E_skip ?_
   refine E_region' (L:=[0,1]) rfl ?_
   refine x_pure rfl rfl rfl xb3 ?_
   refine xmv ?_
   refine EOps_nil ?_
   refine⟨k+1,?_,?_,rfl,⟨.inr rfl,.inl rfl,trivial⟩,⟨.inr rfl,.inr rfl,.inr rfl,trivial⟩⟩
   ·first|omega|(dsimp only;omega)|(simp;omega)
   ·exact⟨by omega,any_take hany (map_at hx) hc16⟩
 ·have hk' : (xs.map (·.2)).length ≤ k := by simpa [pairs_len] using hc9
  rw [List.take_of_length_le hk'] at hany
  have he:=fIdx_none hany
  refine E_exit ?_
  refine E_seq ?_
  refine E_region' (L:=[0]) rfl ?_
  refine xas ?_
  refine EOps_nil ?_
  refine E_ret ?_
  refine⟨_,rfl,rfl,?_⟩
  first|(simp [AV.ren,ren_sc,ren_ro,AC.ren,AC.ren.rens,ix,rv1,E.get,E.ev,E.cv,E.fill',E.fill,E.slotsOf, *];done)|simp_all [AV.ren,ren_sc,ren_ro,AC.ren,AC.ren.rens,ix,rv1,E.get,E.ev,E.cv,E.fill',E.fill,E.slotsOf]

set_option maxRecDepth 20000 in
set_option maxHeartbeats 2000000 in
theorem c_slices_ContainsFunc___impl_Item_impl_Item_ (xs : List (Int × Int)) (q : Int → Bool) (f : FuncId) (caps : List AC) (R : List Res) (hf : callable Try.prog f = true) (hp : ∀ x ∈ xs, EFn Try.prog f (.agg [.sc (.int .i64 x.1), .sc (.int .i64 x.2)] :: caps.map .c) R (fun r R' => r = .c (.sc (.bool (q x.2))) ∧ R' = R)) : EFn Try.prog 118 [.c (.ro (pairs xs)), .c (.fn f caps)] R (fun r R' => r = .c (.sc (.bool ((xs.map (·.2)).any q))) ∧ R' = R) := by
 refine E_fnS Try.func118 rfl (Nat.le_of_ble_eq_true rfl) ?_
 refine E_seq ?_
 refine E_region' (L:=[0]) rfl ?_
 refine xas ?_
 refine EOps_nil ?_
 refine E_seq ?_
 refine E_region' (L:=[0,1,2,3,4]) rfl ?_
 refine xmv ?_
 refine xmv ?_
 refine EOps_go rfl rfl (xe2 rfl rfl rfl ca_110 ((c_slices_IndexFunc___impl_Item_impl_Item_ xs q f caps R hf hp)) ?_)
 rintro r S ⟨rfl,rfl⟩
 refine x_pure rfl rfl rfl (L_bin rfl rfl rfl rfl) ?_
 refine xas ?_
 refine EOps_nil ?_
 refine E_ret ?_
 refine⟨_,rfl,rfl,?_⟩
 cases h:(xs.map (·.2)).any q<;>simp [AV.ren,ren_sc,ren_ro,AC.ren,AC.ren.rens,ix,rv1,E.get,E.ev,E.cv,E.fill',E.fill,E.slotsOf,fIdx,h]

end Go.Proofs.Ytcepgfcolmdnoaa.E
