/- Walks through functions, by program out of the session's annotations. -/
import Derived.Test.YthlhmpknngidmaaGreatA05
namespace Go.Proofs.YthlhmpknngidmaaGreat.E
open Go Go.RowKit Go.Proofs
set_option linter.unusedVariables false
set_option linter.unusedSimpArgs false

set_option maxRecDepth 20000 in
set_option maxHeartbeats 2000000 in
theorem c_spec_l4Ints (xs ys : List (Int)) : EFn Tryz.prog 99 [.c (.ro (ints xs)), .c (.ro (ints ys))] [] (fun r S => r = .c (.sc (.bool (decide (xs = ys)))) ∧ S = []) := by
 refine E_fn Tryz.func99 rfl (Nat.le_of_ble_eq_true rfl) ?_
 refine E_bound (t:=0) (rows:=ints xs) rfl fun hb=>?_
 rw [ints_len] at hb
 refine E_seq ?_
 refine E_region' (L:=[0]) rfl ?_
 refine xas ?_
 refine EOps_nil ?_
 refine E_seq ?_
 refine E_seq ?_
 refine E_region' (L:=[0,1,2,3,4]) rfl ?_
 refine xmv ?_
 refine x_pure rfl rfl rfl (l_len rfl sl_22) ?_
 refine xmv ?_
 refine x_pure rfl rfl rfl (l_len rfl sl_22) ?_
 refine x_pure rfl rfl rfl (L_bin rfl rfl rfl rfl) ?_
 refine EOps_nil ?_
 refine E_cond rfl (fun hc10=>?_) (fun hc10=>?_)
 ·have hne : xs ≠ ys := fun e => by subst e; simp at hc10
  refine E_seq ?_
  refine E_region' (L:=[0]) rfl ?_
  refine xas ?_
  refine EOps_nil ?_
  refine E_ret ?_
  refine⟨_,[],rfl,rfl,?_,rfl⟩
  simp [AV.ren,ren_sc,ren_ro,AC.ren,AC.ren.rens,ix,rv1,E.get,E.ev,E.cv,E.fill',E.fill,E.slotsOf,hne]
 ·have hlen : xs.length = ys.length := by simp [ints_len] at hc10; omega
  refine E_skip ?_
  refine E_seq ?_
  refine E_seq ?_
  refine E_region' (L:=[0]) rfl ?_
  refine xas ?_
  refine EOps_nil ?_
  refine E_block ?_
  refine e_for (α:=Nat) [0,1,10] (fun k=>[(5,.c (.sc (.int .i64 (k))))]) (fun _=>_) (fun k=>k≤xs.length∧xs.take k=ys.take k) (fun k=>xs.length - k) (0) ?_ (rfl) ⟨.inr rfl,trivial⟩ ?_
  ·simp
  rintro k ⟨hk,htk⟩
  refine E_seq ?_
  refine E_seq ?_
  refine E_region' (L:=[0,1,2,3]) rfl ?_
  refine xmv ?_
  refine xmv ?_
  refine x_pure rfl rfl rfl (l_len rfl sl_22) ?_
  refine x_pure rfl rfl rfl (L_bin rfl rfl rfl rfl) ?_
  refine EOps_nil ?_
  refine E_cond rfl (fun hc14=>?_) (fun hc14=>?_)
  ·have hc14' : k < (xs).length := by simpa [ints_len, bools_len, pairs_len, quads_len, quints_len] using hc14
   obtain⟨x,hx⟩:∃ x,(xs)[k]? = some x:=⟨_,List.getElem?_eq_getElem hc14'⟩
   obtain⟨y,hy⟩:∃ y,ys[k]? = some y:=⟨_,List.getElem?_eq_getElem (hlen ▸ hc14')⟩
   refine E_skip ?_
   refine E_seq ?_
   refine E_block ?_
   refine E_seq ?_
   refine E_drawT mixed ?_
   refine t_old 0 rfl rfl rfl (L_move rfl) ?_
   refine t_old 1 rfl rfl rfl (L_move rfl) ?_
   refine t_old 2 rfl rfl rfl (L_index rfl rfl (by first|exact i_ro sl_22 ty_3|exact i_sl sl_22 ty_3)) ?_
   refine t_light 3 rfl rfl rfl (L_load rfl (xb0 ty_3)) ?_
   refine t_old 4 rfl rfl rfl (L_move rfl) ?_
   refine t_old 5 rfl rfl rfl (L_move rfl) ?_
   refine t_old 6 rfl rfl rfl (L_index rfl rfl (by first|exact i_ro sl_22 ty_3|exact i_sl sl_22 ty_3)) ?_
   refine t_light 7 rfl rfl rfl (L_load rfl (xb0 ty_3)) ?_
   refine t_old 8 rfl rfl rfl (L_bin rfl rfl rfl rfl) ?_
   refine T_done (by kernel_rfl) ?_
   refine E_cond rfl (fun hc25=>?_) (fun hc25=>?_)
   ·have hne : xs ≠ ys := fun e => by subst e; rw [hx] at hy; cases hy; simp at hc25
    refine E_seq ?_
    refine E_region' (L:=[0]) rfl ?_
    refine xas ?_
    refine EOps_nil ?_
    refine E_ret ?_
    refine⟨_,[],rfl,rfl,?_,rfl⟩
    simp [AV.ren,ren_sc,ren_ro,AC.ren,AC.ren.rens,ix,rv1,E.get,E.ev,E.cv,E.fill',E.fill,E.slotsOf,hne]
   ·have hxy : x = y := by simpa using hc25
    refine E_skip ?_
    refine E_region' (L:=[0,1,2]) rfl ?_
    refine xmv ?_
    refine x_pure rfl rfl rfl xb2 ?_
    refine xas ?_
    refine EOps_nil ?_
    refine⟨k+1,?_,?_,rfl,⟨.inr rfl,trivial⟩,⟨.inr rfl,.inr rfl,.inr rfl,trivial⟩⟩
    ·first|omega|(dsimp only;omega)|(simp;omega)
    ·exact⟨by omega,by rw [List.take_add_one,List.take_add_one,htk,hx,hy,hxy]⟩
  ·have hk' : xs.length ≤ k := by simpa [ints_len] using hc14
   have heq:xs=ys:=by rw [List.take_of_length_le hk',List.take_of_length_le (by omega)] at htk;exact htk
   refine E_exit ?_
   refine E_seq ?_
   refine E_region' (L:=[0]) rfl ?_
   refine xas ?_
   refine EOps_nil ?_
   refine E_ret ?_
   refine⟨_,[],rfl,rfl,?_,rfl⟩
   simp [AV.ren,ren_sc,ren_ro,AC.ren,AC.ren.rens,ix,rv1,E.get,E.ev,E.cv,E.fill',E.fill,E.slotsOf,heq]

set_option maxRecDepth 20000 in
set_option maxHeartbeats 2000000 in
theorem c_slices_Equal___int_int_ (xs ys : List (Int)) : EFn Tryz.prog 102 [.c (.ro (ints xs)), .c (.ro (ints ys))] [] (fun r S => r = .c (.sc (.bool (decide (xs = ys)))) ∧ S = []) := by
 refine E_fn Tryz.func102 rfl (Nat.le_of_ble_eq_true rfl) ?_
 refine E_bound (t:=0) (rows:=ints xs) rfl fun hb=>?_
 rw [ints_len] at hb
 refine E_seq ?_
 refine E_region' (L:=[0]) rfl ?_
 refine xas ?_
 refine EOps_nil ?_
 refine E_seq ?_
 refine E_seq ?_
 refine E_region' (L:=[0,1,2,3,4]) rfl ?_
 refine xmv ?_
 refine x_pure rfl rfl rfl (l_len rfl sl_22) ?_
 refine xmv ?_
 refine x_pure rfl rfl rfl (l_len rfl sl_22) ?_
 refine x_pure rfl rfl rfl (L_bin rfl rfl rfl rfl) ?_
 refine EOps_nil ?_
 refine E_cond rfl (fun hc10=>?_) (fun hc10=>?_)
 ·have hne : xs ≠ ys := fun e => by subst e; simp at hc10
  refine E_seq ?_
  refine E_region' (L:=[0]) rfl ?_
  refine xas ?_
  refine EOps_nil ?_
  refine E_ret ?_
  refine⟨_,[],rfl,rfl,?_,rfl⟩
  simp [AV.ren,ren_sc,ren_ro,AC.ren,AC.ren.rens,ix,rv1,E.get,E.ev,E.cv,E.fill',E.fill,E.slotsOf,hne]
 ·have hlen : xs.length = ys.length := by simp [ints_len] at hc10; omega
  refine E_skip ?_
  refine E_seq ?_
  refine E_seq ?_
  refine E_region' (L:=[0,1,2]) rfl ?_
  refine xmv ?_
  refine x_pure rfl rfl rfl (l_len rfl sl_22) ?_
  refine xmv ?_
  refine EOps_nil ?_
  refine E_block ?_
  refine e_for (α:=Nat) [0,1,10,12] (fun k=>[(13,.c (.sc (.int .i64 (k)))),(5,.any)]) (fun _=>_) (fun k=>k≤xs.length∧xs.take k=ys.take k) (fun k=>xs.length - k) (0) ?_ (rfl) ⟨.inr rfl,.inl rfl,trivial⟩ ?_
  ·simp
  rintro k ⟨hk,htk⟩
  refine E_seq ?_
  refine E_region' (L:=[0]) rfl ?_
  refine x_pure rfl rfl rfl (L_bin rfl rfl rfl rfl) ?_
  refine EOps_nil ?_
  refine E_seq ?_
  refine E_cond rfl (fun hc14=>?_) (fun hc14=>?_)
  ·have hc14' : k < (xs).length := by simpa [ints_len, bools_len, pairs_len, quads_len, quints_len] using hc14
   obtain⟨x,hx⟩:∃ x,(xs)[k]? = some x:=⟨_,List.getElem?_eq_getElem hc14'⟩
   obtain⟨y,hy⟩:∃ y,ys[k]? = some y:=⟨_,List.getElem?_eq_getElem (hlen ▸ hc14')⟩
   refine E_skip ?_
   refine E_seq ?_
   refine E_block ?_
   refine E_seq ?_
   refine E_region' (L:=[0,1]) rfl ?_
   refine xmv ?_
   refine xas ?_
   refine EOps_nil ?_
   refine E_seq ?_
   refine E_drawT mixed ?_
   refine t_old 0 rfl rfl rfl (L_move rfl) ?_
   refine t_old 1 rfl rfl rfl (L_move rfl) ?_
   refine t_old 2 rfl rfl rfl (L_index rfl rfl (by first|exact i_ro sl_22 ty_3|exact i_sl sl_22 ty_3)) ?_
   refine t_light 3 rfl rfl rfl (L_load rfl (xb0 ty_3)) ?_
   refine t_old 4 rfl rfl rfl (L_move rfl) ?_
   refine t_old 5 rfl rfl rfl (L_move rfl) ?_
   refine t_old 6 rfl rfl rfl (L_index rfl rfl (by first|exact i_ro sl_22 ty_3|exact i_sl sl_22 ty_3)) ?_
   refine t_light 7 rfl rfl rfl (L_load rfl (xb0 ty_3)) ?_
   refine t_old 8 rfl rfl rfl (L_bin rfl rfl rfl rfl) ?_
   refine T_done (by kernel_rfl) ?_
   refine E_cond rfl (fun hc24=>?_) (fun hc24=>?_)
   ·have hne : xs ≠ ys := fun e => by subst e; rw [hx] at hy; cases hy; simp at hc24
    refine E_seq ?_
    refine E_region' (L:=[0]) rfl ?_
    refine xas ?_
    refine EOps_nil ?_
    refine E_ret ?_
    refine⟨_,[],rfl,rfl,?_,rfl⟩
    simp [AV.ren,ren_sc,ren_ro,AC.ren,AC.ren.rens,ix,rv1,E.get,E.ev,E.cv,E.fill',E.fill,E.slotsOf,hne]
   ·have hxy : x = y := by simpa using hc24
    refine E_skip ?_
    refine E_region' (L:=[0,1]) rfl ?_
    refine x_pure rfl rfl rfl xb2 ?_
    refine xmv ?_
    refine EOps_nil ?_
    refine⟨k+1,?_,?_,rfl,⟨.inr rfl,.inl rfl,trivial⟩,⟨.inr rfl,.inr rfl,.inr rfl,.inr rfl,trivial⟩⟩
    ·first|omega|(dsimp only;omega)|(simp;omega)
    ·exact⟨by omega,by rw [List.take_add_one,List.take_add_one,htk,hx,hy,hxy]⟩
  ·have hk' : xs.length ≤ k := by simpa [ints_len] using hc14
   have heq:xs=ys:=by rw [List.take_of_length_le hk',List.take_of_length_le (by omega)] at htk;exact htk
   refine E_exit ?_
   refine E_seq ?_
   refine E_region' (L:=[0]) rfl ?_
   refine xas ?_
   refine EOps_nil ?_
   refine E_ret ?_
   refine⟨_,[],rfl,rfl,?_,rfl⟩
   simp [AV.ren,ren_sc,ren_ro,AC.ren,AC.ren.rens,ix,rv1,E.get,E.ev,E.cv,E.fill',E.fill,E.slotsOf,heq]

set_option maxRecDepth 20000 in
set_option maxHeartbeats 2000000 in
theorem c_spec_l4Same (xs ys : List (Int × Int)) : EFn Tryz.prog 156 [.c (.ro (pairs xs)), .c (.ro (pairs ys))] [] (fun r S => r = .c (.sc (.bool (decide (xs = ys)))) ∧ S = []) := by
 refine E_fn Tryz.func156 rfl (Nat.le_of_ble_eq_true rfl) ?_
 refine E_bound (t:=0) (rows:=pairs xs) rfl fun hb=>?_
 rw [pairs_len] at hb
 refine E_seq ?_
 refine E_region' (L:=[0]) rfl ?_
 refine xas ?_
 refine EOps_nil ?_
 refine E_seq ?_
 refine E_seq ?_
 refine E_region' (L:=[0,1,2,3,4]) rfl ?_
 refine xmv ?_
 refine x_pure rfl rfl rfl (l_len rfl sl_68) ?_
 refine xmv ?_
 refine x_pure rfl rfl rfl (l_len rfl sl_68) ?_
 refine x_pure rfl rfl rfl (L_bin rfl rfl rfl rfl) ?_
 refine EOps_nil ?_
 refine E_cond rfl (fun hc10=>?_) (fun hc10=>?_)
 ·have hne : xs ≠ ys := fun e => by subst e; simp at hc10
  refine E_seq ?_
  refine E_region' (L:=[0]) rfl ?_
  refine xas ?_
  refine EOps_nil ?_
  refine E_ret ?_
  refine⟨_,[],rfl,rfl,?_,rfl⟩
  simp [AV.ren,ren_sc,ren_ro,AC.ren,AC.ren.rens,ix,rv1,E.get,E.ev,E.cv,E.fill',E.fill,E.slotsOf,hne]
 ·have hlen : xs.length = ys.length := by simp [pairs_len] at hc10; omega
  refine E_skip ?_
  refine E_seq ?_
  refine E_seq ?_
  refine E_region' (L:=[0]) rfl ?_
  refine xas ?_
  refine EOps_nil ?_
  refine E_block ?_
  refine e_for (α:=Nat) [0,1,10] (fun k=>[(5,.c (.sc (.int .i64 (k))))]) (fun _=>_) (fun k=>k≤xs.length∧xs.take k=ys.take k) (fun k=>xs.length - k) (0) ?_ (rfl) ⟨.inr rfl,trivial⟩ ?_
  ·simp
  rintro k ⟨hk,htk⟩
  refine E_seq ?_
  refine E_seq ?_
  refine E_region' (L:=[0,1,2,3]) rfl ?_
  refine xmv ?_
  refine xmv ?_
  refine x_pure rfl rfl rfl (l_len rfl sl_68) ?_
  refine x_pure rfl rfl rfl (L_bin rfl rfl rfl rfl) ?_
  refine EOps_nil ?_
  refine E_cond rfl (fun hc14=>?_) (fun hc14=>?_)
  ·have hc14' : k < (xs).length := by simpa [ints_len, bools_len, pairs_len, quads_len, quints_len] using hc14
   obtain⟨x,hx⟩:∃ x,(xs)[k]? = some x:=⟨_,List.getElem?_eq_getElem hc14'⟩
   obtain⟨y,hy⟩:∃ y,ys[k]? = some y:=⟨_,List.getElem?_eq_getElem (hlen ▸ hc14')⟩
   refine E_skip ?_
   refine E_seq ?_
   refine E_block ?_
   refine E_seq ?_
   refine E_drawT mixed ?_
   refine t_old 0 rfl rfl rfl (L_move rfl) ?_
   refine t_old 1 rfl rfl rfl (L_move rfl) ?_
   refine t_old 2 rfl rfl rfl (L_index rfl rfl (by first|exact i_ro sl_68 ty_157|exact i_sl sl_68 ty_157)) ?_
   refine t_light 3 rfl rfl rfl (L_load rfl (xb0 ty_157)) ?_
   refine t_old 4 rfl rfl rfl (L_move rfl) ?_
   refine t_old 5 rfl rfl rfl (L_move rfl) ?_
   refine t_old 6 rfl rfl rfl (L_index rfl rfl (by first|exact i_ro sl_68 ty_157|exact i_sl sl_68 ty_157)) ?_
   refine t_light 7 rfl rfl rfl (L_load rfl (xb0 ty_157)) ?_
   refine t_old 8 rfl rfl rfl (L_binA rfl se_157 fd_157 rfl rfl rfl rfl ⟨rfl,rfl⟩ rfl) ?_
   refine T_done (by kernel_rfl) ?_
   refine E_cond rfl (fun hc25=>?_) (fun hc25=>?_)
   ·have hne : xs ≠ ys := fun e => by subst e; rw [hx] at hy; cases hy; simp at hc25
    refine E_seq ?_
    refine E_region' (L:=[0]) rfl ?_
    refine xas ?_
    refine EOps_nil ?_
    refine E_ret ?_
    refine⟨_,[],rfl,rfl,?_,rfl⟩
    simp [AV.ren,ren_sc,ren_ro,AC.ren,AC.ren.rens,ix,rv1,E.get,E.ev,E.cv,E.fill',E.fill,E.slotsOf,hne]
   ·have hxy : x = y := by simp at hc25; exact Prod.ext hc25.1 hc25.2
    refine E_skip ?_
    refine E_region' (L:=[0,1,2]) rfl ?_
    refine xmv ?_
    refine x_pure rfl rfl rfl xb2 ?_
    refine xas ?_
    refine EOps_nil ?_
    refine⟨k+1,?_,?_,rfl,⟨.inr rfl,trivial⟩,⟨.inr rfl,.inr rfl,.inr rfl,trivial⟩⟩
    ·first|omega|(dsimp only;omega)|(simp;omega)
    ·exact⟨by omega,by rw [List.take_add_one,List.take_add_one,htk,hx,hy,hxy]⟩
  ·have hk' : xs.length ≤ k := by simpa [pairs_len] using hc14
   have heq:xs=ys:=by rw [List.take_of_length_le hk',List.take_of_length_le (by omega)] at htk;exact htk
   refine E_exit ?_
   refine E_seq ?_
   refine E_region' (L:=[0]) rfl ?_
   refine xas ?_
   refine EOps_nil ?_
   refine E_ret ?_
   refine⟨_,[],rfl,rfl,?_,rfl⟩
   simp [AV.ren,ren_sc,ren_ro,AC.ren,AC.ren.rens,ix,rv1,E.get,E.ev,E.cv,E.fill',E.fill,E.slotsOf,heq]

set_option maxRecDepth 20000 in
set_option maxHeartbeats 2000000 in
theorem c_slices_Equal___impl_Pivot_impl_Pivot_ (xs ys : List (Int × Int)) : EFn Tryz.prog 168 [.c (.ro (pairs xs)), .c (.ro (pairs ys))] [] (fun r S => r = .c (.sc (.bool (decide (xs = ys)))) ∧ S = []) := by
 refine E_fn Tryz.func168 rfl (Nat.le_of_ble_eq_true rfl) ?_
 refine E_bound (t:=0) (rows:=pairs xs) rfl fun hb=>?_
 rw [pairs_len] at hb
 refine E_seq ?_
 refine E_region' (L:=[0]) rfl ?_
 refine xas ?_
 refine EOps_nil ?_
 refine E_seq ?_
 refine E_seq ?_
 refine E_region' (L:=[0,1,2,3,4]) rfl ?_
 refine xmv ?_
 refine x_pure rfl rfl rfl (l_len rfl sl_68) ?_
 refine xmv ?_
 refine x_pure rfl rfl rfl (l_len rfl sl_68) ?_
 refine x_pure rfl rfl rfl (L_bin rfl rfl rfl rfl) ?_
 refine EOps_nil ?_
 refine E_cond rfl (fun hc10=>?_) (fun hc10=>?_)
 ·have hne : xs ≠ ys := fun e => by subst e; simp at hc10
  refine E_seq ?_
  refine E_region' (L:=[0]) rfl ?_
  refine xas ?_
  refine EOps_nil ?_
  refine E_ret ?_
  refine⟨_,[],rfl,rfl,?_,rfl⟩
  simp [AV.ren,ren_sc,ren_ro,AC.ren,AC.ren.rens,ix,rv1,E.get,E.ev,E.cv,E.fill',E.fill,E.slotsOf,hne]
 ·have hlen : xs.length = ys.length := by simp [pairs_len] at hc10; omega
  refine E_skip ?_
  refine E_seq ?_
  refine E_seq ?_
  refine E_region' (L:=[0,1,2]) rfl ?_
  refine xmv ?_
  refine x_pure rfl rfl rfl (l_len rfl sl_68) ?_
  refine xmv ?_
  refine EOps_nil ?_
  refine E_block ?_
  refine e_for (α:=Nat) [0,1,10,12] (fun k=>[(13,.c (.sc (.int .i64 (k)))),(5,.any)]) (fun _=>_) (fun k=>k≤xs.length∧xs.take k=ys.take k) (fun k=>xs.length - k) (0) ?_ (rfl) ⟨.inr rfl,.inl rfl,trivial⟩ ?_
  ·simp
  rintro k ⟨hk,htk⟩
  refine E_seq ?_
  refine E_region' (L:=[0]) rfl ?_
  refine x_pure rfl rfl rfl (L_bin rfl rfl rfl rfl) ?_
  refine EOps_nil ?_
  refine E_seq ?_
  refine E_cond rfl (fun hc14=>?_) (fun hc14=>?_)
  ·have hc14' : k < (xs).length := by simpa [ints_len, bools_len, pairs_len, quads_len, quints_len] using hc14
   obtain⟨x,hx⟩:∃ x,(xs)[k]? = some x:=⟨_,List.getElem?_eq_getElem hc14'⟩
   obtain⟨y,hy⟩:∃ y,ys[k]? = some y:=⟨_,List.getElem?_eq_getElem (hlen ▸ hc14')⟩
   refine E_skip ?_
   refine E_seq ?_
   refine E_block ?_
   refine E_seq ?_
   refine E_region' (L:=[0,1]) rfl ?_
   refine xmv ?_
   refine xas ?_
   refine EOps_nil ?_
   refine E_seq ?_
   refine E_drawT mixed ?_
   refine t_old 0 rfl rfl rfl (L_move rfl) ?_
   refine t_old 1 rfl rfl rfl (L_move rfl) ?_
   refine t_old 2 rfl rfl rfl (L_index rfl rfl (by first|exact i_ro sl_68 ty_157|exact i_sl sl_68 ty_157)) ?_
   refine t_light 3 rfl rfl rfl (L_load rfl (xb0 ty_157)) ?_
   refine t_old 4 rfl rfl rfl (L_move rfl) ?_
   refine t_old 5 rfl rfl rfl (L_move rfl) ?_
   refine t_old 6 rfl rfl rfl (L_index rfl rfl (by first|exact i_ro sl_68 ty_157|exact i_sl sl_68 ty_157)) ?_
   refine t_light 7 rfl rfl rfl (L_load rfl (xb0 ty_157)) ?_
   refine t_old 8 rfl rfl rfl (L_binA rfl se_157 fd_157 rfl rfl rfl rfl ⟨rfl,rfl⟩ rfl) ?_
   refine T_done (by kernel_rfl) ?_
   refine E_cond rfl (fun hc24=>?_) (fun hc24=>?_)
   ·have hne : xs ≠ ys := fun e => by subst e; rw [hx] at hy; cases hy; simp at hc24
    refine E_seq ?_
    refine E_region' (L:=[0]) rfl ?_
    refine xas ?_
    refine EOps_nil ?_
    refine E_ret ?_
    refine⟨_,[],rfl,rfl,?_,rfl⟩
    simp [AV.ren,ren_sc,ren_ro,AC.ren,AC.ren.rens,ix,rv1,E.get,E.ev,E.cv,E.fill',E.fill,E.slotsOf,hne]
   ·have hxy : x = y := by simp at hc24; exact Prod.ext hc24.1 hc24.2
    refine E_skip ?_
    refine E_region' (L:=[0,1]) rfl ?_
    refine x_pure rfl rfl rfl xb2 ?_
    refine xmv ?_
    refine EOps_nil ?_
    refine⟨k+1,?_,?_,rfl,⟨.inr rfl,.inl rfl,trivial⟩,⟨.inr rfl,.inr rfl,.inr rfl,.inr rfl,trivial⟩⟩
    ·first|omega|(dsimp only;omega)|(simp;omega)
    ·exact⟨by omega,by rw [List.take_add_one,List.take_add_one,htk,hx,hy,hxy]⟩
  ·have hk' : xs.length ≤ k := by simpa [pairs_len] using hc14
   have heq:xs=ys:=by rw [List.take_of_length_le hk',List.take_of_length_le (by omega)] at htk;exact htk
   refine E_exit ?_
   refine E_seq ?_
   refine E_region' (L:=[0]) rfl ?_
   refine xas ?_
   refine EOps_nil ?_
   refine E_ret ?_
   refine⟨_,[],rfl,rfl,?_,rfl⟩
   simp [AV.ren,ren_sc,ren_ro,AC.ren,AC.ren.rens,ix,rv1,E.get,E.ev,E.cv,E.fill',E.fill,E.slotsOf,heq]

set_option maxRecDepth 20000 in
set_option maxHeartbeats 2000000 in
theorem c_laws_eqPivot (a b : Int × Int) : EFn Tryz.prog 205 [.agg [.sc (.int .i64 a.1), .sc (.int .i64 a.2)], .agg [.sc (.int .i64 b.1), .sc (.int .i64 b.2)]] [] (fun r S => r = .c (.sc (.bool (decide (a = b)))) ∧ S = []) := by
 refine E_fn Tryz.func205 rfl (Nat.le_of_ble_eq_true rfl) ?_
 obtain⟨a1,a2⟩:=a
 obtain⟨b1,b2⟩:=b
 refine E_seq ?_
 refine E_region' (L:=[0,1,2]) rfl ?_
 refine x_box rfl rfl rfl rfl rfl ?_
 refine x_box rfl rfl rfl rfl rfl ?_
 refine xas ?_
 refine EOps_nil ?_
 refine E_seq ?_
 refine E_seq ?_
 refine E_region' (L:=[0,1,2,3,4]) rfl ?_
 refine x_pure rfl rfl rfl (l_field rfl fo_157_0) ?_
 refine x_light rfl rfl rfl (L_load rfl (xb0 ty_3)) ?_
 refine x_pure rfl rfl rfl (l_field rfl fo_157_0) ?_
 refine x_light rfl rfl rfl (L_load rfl (xb0 ty_3)) ?_
 refine x_pure rfl rfl rfl (L_bin rfl rfl rfl rfl) ?_
 refine EOps_nil ?_
 refine E_cond rfl (fun hc9=>?_) (fun hc9=>?_)
 ·refine E_seq ?_
  refine E_region' (L:=[0]) rfl ?_
  refine xas ?_
  refine EOps_nil ?_
  refine E_ret ?_
  refine⟨_,[],rfl,rfl,bool_eq ?_,rfl⟩
  simp_all [tc]
 ·refine E_skip ?_
  refine E_seq ?_
  refine E_seq ?_
  refine E_region' (L:=[0,1,2,3,4]) rfl ?_
  refine x_pure rfl rfl rfl (l_field rfl fo_157_1) ?_
  refine x_light rfl rfl rfl (L_load rfl (xb0 ty_3)) ?_
  refine x_pure rfl rfl rfl (l_field rfl fo_157_1) ?_
  refine x_light rfl rfl rfl (L_load rfl (xb0 ty_3)) ?_
  refine x_pure rfl rfl rfl (L_bin rfl rfl rfl rfl) ?_
  refine EOps_nil ?_
  refine E_cond rfl (fun hc14=>?_) (fun hc14=>?_)
  ·refine E_seq ?_
   refine E_region' (L:=[0]) rfl ?_
   refine xas ?_
   refine EOps_nil ?_
   refine E_ret ?_
   refine⟨_,[],rfl,rfl,bool_eq ?_,rfl⟩
   simp_all [tc]
  ·refine E_skip ?_
   refine E_seq ?_
   refine E_region' (L:=[0]) rfl ?_
   refine xas ?_
   refine EOps_nil ?_
   refine E_ret ?_
   refine⟨_,[],rfl,rfl,bool_eq ?_,rfl⟩
   simp_all [tc]

set_option maxRecDepth 20000 in
set_option maxHeartbeats 2000000 in
theorem c_laws_eqPivotS (xs ys : List (Int × Int)) : EFn Tryz.prog 192 [.c (.ro (pairs xs)), .c (.ro (pairs ys))] [] (fun r S => r = .c (.sc (.bool (decide (xs = ys)))) ∧ S = []) := by
 refine E_fn Tryz.func192 rfl (Nat.le_of_ble_eq_true rfl) ?_
 refine E_bound (t:=0) (rows:=pairs xs) rfl fun hb=>?_
 rw [pairs_len] at hb
 refine E_seq ?_
 refine E_region' (L:=[0]) rfl ?_
 refine xas ?_
 refine EOps_nil ?_
 refine E_seq ?_
 refine E_seq ?_
 refine E_region' (L:=[0,1,2,3,4]) rfl ?_
 refine xmv ?_
 refine x_pure rfl rfl rfl (l_len rfl sl_68) ?_
 refine xmv ?_
 refine x_pure rfl rfl rfl (l_len rfl sl_68) ?_
 refine x_pure rfl rfl rfl (L_bin rfl rfl rfl rfl) ?_
 refine EOps_nil ?_
 refine E_cond rfl (fun hc10=>?_) (fun hc10=>?_)
 ·have hne : xs ≠ ys := fun e => by subst e; simp at hc10
  refine E_seq ?_
  refine E_region' (L:=[0]) rfl ?_
  refine xas ?_
  refine EOps_nil ?_
  refine E_ret ?_
  refine⟨_,[],rfl,rfl,?_,rfl⟩
  simp [AV.ren,ren_sc,ren_ro,AC.ren,AC.ren.rens,ix,rv1,E.get,E.ev,E.cv,E.fill',E.fill,E.slotsOf,hne]
 ·have hlen : xs.length = ys.length := by simp [pairs_len] at hc10; omega
  refine E_skip ?_
  refine E_seq ?_
  refine E_seq ?_
  refine E_region' (L:=[0]) rfl ?_
  refine xas ?_
  refine EOps_nil ?_
  refine E_block ?_
  refine e_for (α:=Nat) [0,1,10] (fun k=>[(5,.c (.sc (.int .i64 (k))))]) (fun _=>_) (fun k=>k≤xs.length∧xs.take k=ys.take k) (fun k=>xs.length - k) (0) ?_ (rfl) ⟨.inr rfl,trivial⟩ ?_
  ·simp
  rintro k ⟨hk,htk⟩
  refine E_seq ?_
  refine E_seq ?_
  refine E_region' (L:=[0,1,2,3]) rfl ?_
  refine xmv ?_
  refine xmv ?_
  refine x_pure rfl rfl rfl (l_len rfl sl_68) ?_
  refine x_pure rfl rfl rfl (L_bin rfl rfl rfl rfl) ?_
  refine EOps_nil ?_
  refine E_cond rfl (fun hc14=>?_) (fun hc14=>?_)
  ·have hc14' : k < (xs).length := by simpa [ints_len, bools_len, pairs_len, quads_len, quints_len] using hc14
   obtain⟨x,hx⟩:∃ x,(xs)[k]? = some x:=⟨_,List.getElem?_eq_getElem hc14'⟩
   obtain⟨y,hy⟩:∃ y,ys[k]? = some y:=⟨_,List.getElem?_eq_getElem (hlen ▸ hc14')⟩
   refine E_skip ?_
   refine E_seq ?_
   refine E_block ?_
   refine E_seq ?_
   refine E_drawT mixed ?_
   refine t_old 0 rfl rfl rfl (L_move rfl) ?_
   refine t_old 1 rfl rfl rfl (L_move rfl) ?_
   refine t_old 2 rfl rfl rfl (L_index rfl rfl (by first|exact i_ro sl_68 ty_157|exact i_sl sl_68 ty_157)) ?_
   refine t_light 3 rfl rfl rfl (L_load rfl (xb0 ty_157)) ?_
   refine t_old 4 rfl rfl rfl (L_move rfl) ?_
   refine t_old 5 rfl rfl rfl (L_move rfl) ?_
   refine t_old 6 rfl rfl rfl (L_index rfl rfl (by first|exact i_ro sl_68 ty_157|exact i_sl sl_68 ty_157)) ?_
   refine t_light 7 rfl rfl rfl (L_load rfl (xb0 ty_157)) ?_
   refine t_call 8 rfl rfl rfl rfl rfl ca_205 (c_laws_eqPivot x y) ?_
   rintro r S ⟨rfl,rfl⟩
   refine t_old 9 rfl rfl rfl (L_not rfl rfl) ?_
   refine T_done (by kernel_rfl) ?_
   refine E_cond rfl (fun hc26=>?_) (fun hc26=>?_)
   ·have hne : xs ≠ ys := fun e => by subst e; rw [hx] at hy; cases hy; simp at hc26
    refine E_seq ?_
    refine E_region' (L:=[0]) rfl ?_
    refine xas ?_
    refine EOps_nil ?_
    refine E_ret ?_
    refine⟨_,[],rfl,rfl,?_,rfl⟩
    simp [AV.ren,ren_sc,ren_ro,AC.ren,AC.ren.rens,ix,rv1,E.get,E.ev,E.cv,E.fill',E.fill,E.slotsOf,hne]
   ·have hxy : x = y := by simpa using hc26
    refine E_skip ?_
    refine E_region' (L:=[0,1,2]) rfl ?_
    refine xmv ?_
    refine x_pure rfl rfl rfl xb2 ?_
    refine xas ?_
    refine EOps_nil ?_
    refine⟨k+1,?_,?_,rfl,⟨.inr rfl,trivial⟩,⟨.inr rfl,.inr rfl,.inr rfl,trivial⟩⟩
    ·first|omega|(dsimp only;omega)|(simp;omega)
    ·exact⟨by omega,by rw [List.take_add_one,List.take_add_one,htk,hx,hy,hxy]⟩
  ·have hk' : xs.length ≤ k := by simpa [pairs_len] using hc14
   have heq:xs=ys:=by rw [List.take_of_length_le hk',List.take_of_length_le (by omega)] at htk;exact htk
   refine E_exit ?_
   refine E_seq ?_
   refine E_region' (L:=[0]) rfl ?_
   refine xas ?_
   refine EOps_nil ?_
   refine E_ret ?_
   refine⟨_,[],rfl,rfl,?_,rfl⟩
   simp [AV.ren,ren_sc,ren_ro,AC.ren,AC.ren.rens,ix,rv1,E.get,E.ev,E.cv,E.fill',E.fill,E.slotsOf,heq]

set_option maxRecDepth 20000 in
set_option maxHeartbeats 2000000 in
theorem c_spec_EqualCrackers (a b : Crk) : EFn Tryz.prog 120 [.agg (crkC a), .agg (crkC b)] [] (fun r S => r = .c (.sc (.bool (decide (a = b)))) ∧ S = []) := by
 refine E_fn Tryz.func120 rfl (Nat.le_of_ble_eq_true rfl) ?_
 obtain⟨a1,a2,a3⟩:=a
 obtain⟨b1,b2,b3⟩:=b
 refine E_seq ?_
 refine E_region' (L:=[0,1,2]) rfl ?_
 refine x_box rfl rfl rfl rfl rfl ?_
 refine x_box rfl rfl rfl rfl rfl ?_
 refine xas ?_
 refine EOps_nil ?_
 refine E_seq ?_
 refine E_region' (L:=[0,1,2,3,4,5,6,7,8,9,10,11,12,13,14,15,16,17,18,19]) rfl ?_
 refine x_pure rfl rfl rfl (l_field rfl fo_70_0) ?_
 refine x_light rfl rfl rfl (L_load rfl (xb0 ty_22)) ?_
 refine x_pure rfl rfl rfl (l_field rfl fo_70_0) ?_
 refine x_light rfl rfl rfl (L_load rfl (xb0 ty_22)) ?_
 refine x_call rfl rfl rfl rfl rfl ca_99 (c_spec_l4Ints a1 b1) ?_ (hq:=by rintro r S ⟨rfl,rfl⟩;exact⟨rfl,rfl⟩)
 rintro r S ⟨rfl,rfl⟩
 refine xmv ?_
 refine EOps_split 10 (b:=_) rfl (fun hg10=>?_) (fun hg10=>?_)
 ·refine x_pure rfl rfl rfl (l_field rfl fo_70_1) ?_
  refine x_light rfl rfl rfl (L_load rfl (xb0 ty_22)) ?_
  refine x_pure rfl rfl rfl (l_field rfl fo_70_1) ?_
  refine x_light rfl rfl rfl (L_load rfl (xb0 ty_22)) ?_
  refine x_call rfl rfl rfl rfl rfl ca_99 (c_spec_l4Ints a2 b2) ?_ (hq:=by rintro r S ⟨rfl,rfl⟩;exact⟨rfl,rfl⟩)
  rintro r S ⟨rfl,rfl⟩
  refine x_pure rfl rfl rfl (L_pick rfl rfl) ?_
  refine xmv ?_
  refine EOps_split 17 (b:=_) rfl (fun hg17=>?_) (fun hg17=>?_)
  ·refine x_pure rfl rfl rfl (l_field rfl fo_70_2) ?_
   refine x_light rfl rfl rfl (L_load rfl (xb0 ty_68)) ?_
   refine x_pure rfl rfl rfl (l_field rfl fo_70_2) ?_
   refine x_light rfl rfl rfl (L_load rfl (xb0 ty_68)) ?_
   refine x_call rfl rfl rfl rfl rfl ca_156 (c_spec_l4Same a3 b3) ?_ (hq:=by rintro r S ⟨rfl,rfl⟩;exact⟨rfl,rfl⟩)
   rintro r S ⟨rfl,rfl⟩
   refine x_pure rfl rfl rfl (L_pick rfl rfl) ?_
   refine xas ?_
   refine EOps_nil ?_
   refine E_ret ?_
   refine⟨_,[],rfl,rfl,bool_eq ?_,rfl⟩
   simp_all
  ·refine x_skip rfl rfl rfl ?_
   refine x_skip rfl rfl rfl ?_
   refine x_skip rfl rfl rfl ?_
   refine x_skip rfl rfl rfl ?_
   refine x_skip rfl rfl rfl ?_
   refine x_pure rfl rfl rfl (L_pick rfl rfl) ?_
   refine xas ?_
   refine EOps_nil ?_
   refine E_ret ?_
   refine⟨_,[],rfl,rfl,bool_eq ?_,rfl⟩
   simp_all
 ·refine x_skip rfl rfl rfl ?_
  refine x_skip rfl rfl rfl ?_
  refine x_skip rfl rfl rfl ?_
  refine x_skip rfl rfl rfl ?_
  refine x_skip rfl rfl rfl ?_
  refine x_pure rfl rfl rfl (L_pick rfl rfl) ?_
  refine xmv ?_
  refine x_skip rfl rfl rfl ?_
  refine x_skip rfl rfl rfl ?_
  refine x_skip rfl rfl rfl ?_
  refine x_skip rfl rfl rfl ?_
  refine x_skip rfl rfl rfl ?_
  refine x_pure rfl rfl rfl (L_pick rfl rfl) ?_
  refine xas ?_
  refine EOps_nil ?_
  refine E_ret ?_
  refine⟨_,[],rfl,rfl,bool_eq ?_,rfl⟩
  simp_all

set_option maxRecDepth 20000 in
set_option maxHeartbeats 2000000 in
theorem c_impl_EqualCrackers (a b : Crk) : EFn Tryz.prog 145 [.agg (crkC a), .agg (crkC b)] [] (fun r S => r = .c (.sc (.bool (decide (a = b)))) ∧ S = []) := by
 refine E_fn Tryz.func145 rfl (Nat.le_of_ble_eq_true rfl) ?_
 obtain⟨a1,a2,a3⟩:=a
 obtain⟨b1,b2,b3⟩:=b
 refine E_seq ?_
 refine E_region' (L:=[0,1,2]) rfl ?_
 refine x_box rfl rfl rfl rfl rfl ?_
 refine x_box rfl rfl rfl rfl rfl ?_
 refine xas ?_
 refine EOps_nil ?_
 refine E_seq ?_
 refine E_region' (L:=[0,1,2,3,4,5,6,7,8,9,10,11,12,13,14,15,16,17,18,19]) rfl ?_
 refine x_pure rfl rfl rfl (l_field rfl fo_70_0) ?_
 refine x_light rfl rfl rfl (L_load rfl (xb0 ty_22)) ?_
 refine x_pure rfl rfl rfl (l_field rfl fo_70_0) ?_
 refine x_light rfl rfl rfl (L_load rfl (xb0 ty_22)) ?_
 refine x_call rfl rfl rfl rfl rfl ca_102 (c_slices_Equal___int_int_ a1 b1) ?_ (hq:=by rintro r S ⟨rfl,rfl⟩;exact⟨rfl,rfl⟩)
 rintro r S ⟨rfl,rfl⟩
 refine xmv ?_
 refine EOps_split 10 (b:=_) rfl (fun hg10=>?_) (fun hg10=>?_)
 ·refine x_pure rfl rfl rfl (l_field rfl fo_70_1) ?_
  refine x_light rfl rfl rfl (L_load rfl (xb0 ty_22)) ?_
  refine x_pure rfl rfl rfl (l_field rfl fo_70_1) ?_
  refine x_light rfl rfl rfl (L_load rfl (xb0 ty_22)) ?_
  refine x_call rfl rfl rfl rfl rfl ca_102 (c_slices_Equal___int_int_ a2 b2) ?_ (hq:=by rintro r S ⟨rfl,rfl⟩;exact⟨rfl,rfl⟩)
  rintro r S ⟨rfl,rfl⟩
  refine x_pure rfl rfl rfl (L_pick rfl rfl) ?_
  refine xmv ?_
  refine EOps_split 17 (b:=_) rfl (fun hg17=>?_) (fun hg17=>?_)
  ·refine x_pure rfl rfl rfl (l_field rfl fo_70_2) ?_
   refine x_light rfl rfl rfl (L_load rfl (xb0 ty_68)) ?_
   refine x_pure rfl rfl rfl (l_field rfl fo_70_2) ?_
   refine x_light rfl rfl rfl (L_load rfl (xb0 ty_68)) ?_
   refine x_call rfl rfl rfl rfl rfl ca_168 (c_slices_Equal___impl_Pivot_impl_Pivot_ a3 b3) ?_ (hq:=by rintro r S ⟨rfl,rfl⟩;exact⟨rfl,rfl⟩)
   rintro r S ⟨rfl,rfl⟩
   refine x_pure rfl rfl rfl (L_pick rfl rfl) ?_
   refine xas ?_
   refine EOps_nil ?_
   refine E_ret ?_
   refine⟨_,[],rfl,rfl,bool_eq ?_,rfl⟩
   simp_all
  ·refine x_skip rfl rfl rfl ?_
   refine x_skip rfl rfl rfl ?_
   refine x_skip rfl rfl rfl ?_
   refine x_skip rfl rfl rfl ?_
   refine x_skip rfl rfl rfl ?_
   refine x_pure rfl rfl rfl (L_pick rfl rfl) ?_
   refine xas ?_
   refine EOps_nil ?_
   refine E_ret ?_
   refine⟨_,[],rfl,rfl,bool_eq ?_,rfl⟩
   simp_all
 ·refine x_skip rfl rfl rfl ?_
  refine x_skip rfl rfl rfl ?_
  refine x_skip rfl rfl rfl ?_
  refine x_skip rfl rfl rfl ?_
  refine x_skip rfl rfl rfl ?_
  refine x_pure rfl rfl rfl (L_pick rfl rfl) ?_
  refine xmv ?_
  refine x_skip rfl rfl rfl ?_
  refine x_skip rfl rfl rfl ?_
  refine x_skip rfl rfl rfl ?_
  refine x_skip rfl rfl rfl ?_
  refine x_skip rfl rfl rfl ?_
  refine x_pure rfl rfl rfl (L_pick rfl rfl) ?_
  refine xas ?_
  refine EOps_nil ?_
  refine E_ret ?_
  refine⟨_,[],rfl,rfl,bool_eq ?_,rfl⟩
  simp_all

set_option maxRecDepth 20000 in
set_option maxHeartbeats 2000000 in
theorem c_laws_eqCracker (a b : Crk) : EFn Tryz.prog 165 [.agg (crkC a), .agg (crkC b)] [] (fun r S => r = .c (.sc (.bool (decide (a = b)))) ∧ S = []) := by
 refine E_fn Tryz.func165 rfl (Nat.le_of_ble_eq_true rfl) ?_
 obtain⟨a1,a2,a3⟩:=a
 obtain⟨b1,b2,b3⟩:=b
 refine E_seq ?_
 refine E_region' (L:=[0,1,2]) rfl ?_
 refine x_box rfl rfl rfl rfl rfl ?_
 refine x_box rfl rfl rfl rfl rfl ?_
 refine xas ?_
 refine EOps_nil ?_
 refine E_seq ?_
 refine E_seq ?_
 refine E_region' (L:=[0,1,2,3,4,5]) rfl ?_
 refine x_pure rfl rfl rfl (l_field rfl fo_70_0) ?_
 refine x_light rfl rfl rfl (L_load rfl (xb0 ty_22)) ?_
 refine x_pure rfl rfl rfl (l_field rfl fo_70_0) ?_
 refine x_light rfl rfl rfl (L_load rfl (xb0 ty_22)) ?_
 refine x_call rfl rfl rfl rfl rfl ca_25 (c_laws_eqIntS a1 b1) ?_ (hq:=by rintro r S ⟨rfl,rfl⟩;exact⟨rfl,rfl⟩)
 rintro r S ⟨rfl,rfl⟩
 refine x_pure rfl rfl rfl (L_not rfl rfl) ?_
 refine EOps_nil ?_
 refine E_cond rfl (fun hc10=>?_) (fun hc10=>?_)
 ·refine E_seq ?_
  refine E_region' (L:=[0]) rfl ?_
  refine xas ?_
  refine EOps_nil ?_
  refine E_ret ?_
  refine⟨_,[],rfl,rfl,bool_eq ?_,rfl⟩
  simp_all
 ·refine E_skip ?_
  refine E_seq ?_
  refine E_seq ?_
  refine E_region' (L:=[0,1,2,3,4,5]) rfl ?_
  refine x_pure rfl rfl rfl (l_field rfl fo_70_1) ?_
  refine x_light rfl rfl rfl (L_load rfl (xb0 ty_22)) ?_
  refine x_pure rfl rfl rfl (l_field rfl fo_70_1) ?_
  refine x_light rfl rfl rfl (L_load rfl (xb0 ty_22)) ?_
  refine x_call rfl rfl rfl rfl rfl ca_25 (c_laws_eqIntS a2 b2) ?_ (hq:=by rintro r S ⟨rfl,rfl⟩;exact⟨rfl,rfl⟩)
  rintro r S ⟨rfl,rfl⟩
  refine x_pure rfl rfl rfl (L_not rfl rfl) ?_
  refine EOps_nil ?_
  refine E_cond rfl (fun hc16=>?_) (fun hc16=>?_)
  ·refine E_seq ?_
   refine E_region' (L:=[0]) rfl ?_
   refine xas ?_
   refine EOps_nil ?_
   refine E_ret ?_
   refine⟨_,[],rfl,rfl,bool_eq ?_,rfl⟩
   simp_all
  ·refine E_skip ?_
   refine E_seq ?_
   refine E_seq ?_
   refine E_region' (L:=[0,1,2,3,4,5]) rfl ?_
   refine x_pure rfl rfl rfl (l_field rfl fo_70_2) ?_
   refine x_light rfl rfl rfl (L_load rfl (xb0 ty_68)) ?_
   refine x_pure rfl rfl rfl (l_field rfl fo_70_2) ?_
   refine x_light rfl rfl rfl (L_load rfl (xb0 ty_68)) ?_
   refine x_call rfl rfl rfl rfl rfl ca_192 (c_laws_eqPivotS a3 b3) ?_ (hq:=by rintro r S ⟨rfl,rfl⟩;exact⟨rfl,rfl⟩)
   rintro r S ⟨rfl,rfl⟩
   refine x_pure rfl rfl rfl (L_not rfl rfl) ?_
   refine EOps_nil ?_
   refine E_cond rfl (fun hc22=>?_) (fun hc22=>?_)
   ·refine E_seq ?_
    refine E_region' (L:=[0]) rfl ?_
    refine xas ?_
    refine EOps_nil ?_
    refine E_ret ?_
    refine⟨_,[],rfl,rfl,bool_eq ?_,rfl⟩
    simp_all
   ·refine E_skip ?_
    refine E_seq ?_
    refine E_region' (L:=[0]) rfl ?_
    refine xas ?_
    refine EOps_nil ?_
    refine E_ret ?_
    refine⟨_,[],rfl,rfl,bool_eq ?_,rfl⟩
    simp_all

set_option maxRecDepth 20000 in
set_option maxHeartbeats 2000000 in
theorem c_spec_EqualMaps (a b : Mp) : EFn Tryz.prog 49 [.agg (mpC a), .agg (mpC b)] [] (fun r S => r = .c (.sc (.bool (decide (a = b)))) ∧ S = []) := by
 refine E_fn Tryz.func49 rfl (Nat.le_of_ble_eq_true rfl) ?_
 obtain⟨a1,a2,a3⟩:=a
 obtain⟨b1,b2,b3⟩:=b
 refine E_seq ?_
 refine E_region' (L:=[0,1,2]) rfl ?_
 refine x_box rfl rfl rfl rfl rfl ?_
 refine x_box rfl rfl rfl rfl rfl ?_
 refine xas ?_
 refine EOps_nil ?_
 refine E_seq ?_
 refine E_region' (L:=[0,1,2,3,4,5,6,7,8,9,10,11,12,13,14,15,16,17,18,19]) rfl ?_
 refine x_pure rfl rfl rfl (l_field rfl fo_72_0) ?_
 refine x_light rfl rfl rfl (L_load rfl (xb0 ty_70)) ?_
 refine x_pure rfl rfl rfl (l_field rfl fo_72_0) ?_
 refine x_light rfl rfl rfl (L_load rfl (xb0 ty_70)) ?_
 refine x_call rfl rfl rfl rfl rfl ca_120 (c_spec_EqualCrackers a1 b1) ?_ (hq:=by rintro r S ⟨rfl,rfl⟩;exact⟨rfl,rfl⟩)
 rintro r S ⟨rfl,rfl⟩
 refine xmv ?_
 refine EOps_split 10 (b:=_) rfl (fun hg10=>?_) (fun hg10=>?_)
 ·refine x_pure rfl rfl rfl (l_field rfl fo_72_1) ?_
  refine x_light rfl rfl rfl (L_load rfl (xb0 ty_22)) ?_
  refine x_pure rfl rfl rfl (l_field rfl fo_72_1) ?_
  refine x_light rfl rfl rfl (L_load rfl (xb0 ty_22)) ?_
  refine x_call rfl rfl rfl rfl rfl ca_99 (c_spec_l4Ints a2 b2) ?_ (hq:=by rintro r S ⟨rfl,rfl⟩;exact⟨rfl,rfl⟩)
  rintro r S ⟨rfl,rfl⟩
  refine x_pure rfl rfl rfl (L_pick rfl rfl) ?_
  refine xmv ?_
  refine EOps_split 17 (b:=_) rfl (fun hg17=>?_) (fun hg17=>?_)
  ·refine x_pure rfl rfl rfl (l_field rfl fo_72_2) ?_
   refine x_light rfl rfl rfl (L_load rfl (xb0 ty_3)) ?_
   refine x_pure rfl rfl rfl (l_field rfl fo_72_2) ?_
   refine x_light rfl rfl rfl (L_load rfl (xb0 ty_3)) ?_
   refine x_pure rfl rfl rfl (L_bin rfl rfl rfl rfl) ?_
   refine x_pure rfl rfl rfl (L_pick rfl rfl) ?_
   refine xas ?_
   refine EOps_nil ?_
   refine E_ret ?_
   refine⟨_,[],rfl,rfl,bool_eq ?_,rfl⟩
   simp_all
  ·refine x_skip rfl rfl rfl ?_
   refine x_skip rfl rfl rfl ?_
   refine x_skip rfl rfl rfl ?_
   refine x_skip rfl rfl rfl ?_
   refine x_skip rfl rfl rfl ?_
   refine x_pure rfl rfl rfl (L_pick rfl rfl) ?_
   refine xas ?_
   refine EOps_nil ?_
   refine E_ret ?_
   refine⟨_,[],rfl,rfl,bool_eq ?_,rfl⟩
   simp_all
 ·refine x_skip rfl rfl rfl ?_
  refine x_skip rfl rfl rfl ?_
  refine x_skip rfl rfl rfl ?_
  refine x_skip rfl rfl rfl ?_
  refine x_skip rfl rfl rfl ?_
  refine x_pure rfl rfl rfl (L_pick rfl rfl) ?_
  refine xmv ?_
  refine x_skip rfl rfl rfl ?_
  refine x_skip rfl rfl rfl ?_
  refine x_skip rfl rfl rfl ?_
  refine x_skip rfl rfl rfl ?_
  refine x_skip rfl rfl rfl ?_
  refine x_pure rfl rfl rfl (L_pick rfl rfl) ?_
  refine xas ?_
  refine EOps_nil ?_
  refine E_ret ?_
  refine⟨_,[],rfl,rfl,bool_eq ?_,rfl⟩
  simp_all

set_option maxRecDepth 20000 in
set_option maxHeartbeats 2000000 in
theorem c_impl_EqualMaps (a b : Mp) : EFn Tryz.prog 108 [.agg (mpC a), .agg (mpC b)] [] (fun r S => r = .c (.sc (.bool (decide (a = b)))) ∧ S = []) := by
 refine E_fn Tryz.func108 rfl (Nat.le_of_ble_eq_true rfl) ?_
 obtain⟨a1,a2,a3⟩:=a
 obtain⟨b1,b2,b3⟩:=b
 refine E_seq ?_
 refine E_region' (L:=[0,1,2]) rfl ?_
 refine x_box rfl rfl rfl rfl rfl ?_
 refine x_box rfl rfl rfl rfl rfl ?_
 refine xas ?_
 refine EOps_nil ?_
 refine E_seq ?_
 refine E_region' (L:=[0,1,2,3,4,5,6,7,8,9,10,11,12,13,14,15,16,17,18,19]) rfl ?_
 refine x_pure rfl rfl rfl (l_field rfl fo_72_0) ?_
 refine x_light rfl rfl rfl (L_load rfl (xb0 ty_70)) ?_
 refine x_pure rfl rfl rfl (l_field rfl fo_72_0) ?_
 refine x_light rfl rfl rfl (L_load rfl (xb0 ty_70)) ?_
 refine x_call rfl rfl rfl rfl rfl ca_145 (c_impl_EqualCrackers a1 b1) ?_ (hq:=by rintro r S ⟨rfl,rfl⟩;exact⟨rfl,rfl⟩)
 rintro r S ⟨rfl,rfl⟩
 refine xmv ?_
 refine EOps_split 10 (b:=_) rfl (fun hg10=>?_) (fun hg10=>?_)
 ·refine x_pure rfl rfl rfl (l_field rfl fo_72_1) ?_
  refine x_light rfl rfl rfl (L_load rfl (xb0 ty_22)) ?_
  refine x_pure rfl rfl rfl (l_field rfl fo_72_1) ?_
  refine x_light rfl rfl rfl (L_load rfl (xb0 ty_22)) ?_
  refine x_call rfl rfl rfl rfl rfl ca_102 (c_slices_Equal___int_int_ a2 b2) ?_ (hq:=by rintro r S ⟨rfl,rfl⟩;exact⟨rfl,rfl⟩)
  rintro r S ⟨rfl,rfl⟩
  refine x_pure rfl rfl rfl (L_pick rfl rfl) ?_
  refine xmv ?_
  refine EOps_split 17 (b:=_) rfl (fun hg17=>?_) (fun hg17=>?_)
  ·refine x_pure rfl rfl rfl (l_field rfl fo_72_2) ?_
   refine x_light rfl rfl rfl (L_load rfl (xb0 ty_3)) ?_
   refine x_pure rfl rfl rfl (l_field rfl fo_72_2) ?_
   refine x_light rfl rfl rfl (L_load rfl (xb0 ty_3)) ?_
   refine x_pure rfl rfl rfl (L_bin rfl rfl rfl rfl) ?_
   refine x_pure rfl rfl rfl (L_pick rfl rfl) ?_
   refine xas ?_
   refine EOps_nil ?_
   refine E_ret ?_
   refine⟨_,[],rfl,rfl,bool_eq ?_,rfl⟩
   simp_all
  ·refine x_skip rfl rfl rfl ?_
   refine x_skip rfl rfl rfl ?_
   refine x_skip rfl rfl rfl ?_
   refine x_skip rfl rfl rfl ?_
   refine x_skip rfl rfl rfl ?_
   refine x_pure rfl rfl rfl (L_pick rfl rfl) ?_
   refine xas ?_
   refine EOps_nil ?_
   refine E_ret ?_
   refine⟨_,[],rfl,rfl,bool_eq ?_,rfl⟩
   simp_all
 ·refine x_skip rfl rfl rfl ?_
  refine x_skip rfl rfl rfl ?_
  refine x_skip rfl rfl rfl ?_
  refine x_skip rfl rfl rfl ?_
  refine x_skip rfl rfl rfl ?_
  refine x_pure rfl rfl rfl (L_pick rfl rfl) ?_
  refine xmv ?_
  refine x_skip rfl rfl rfl ?_
  refine x_skip rfl rfl rfl ?_
  refine x_skip rfl rfl rfl ?_
  refine x_skip rfl rfl rfl ?_
  refine x_skip rfl rfl rfl ?_
  refine x_pure rfl rfl rfl (L_pick rfl rfl) ?_
  refine xas ?_
  refine EOps_nil ?_
  refine E_ret ?_
  refine⟨_,[],rfl,rfl,bool_eq ?_,rfl⟩
  simp_all

set_option maxRecDepth 20000 in
set_option maxHeartbeats 2000000 in
theorem c_laws_eqMap (a b : Mp) : EFn Tryz.prog 130 [.agg (mpC a), .agg (mpC b)] [] (fun r S => r = .c (.sc (.bool (decide (a = b)))) ∧ S = []) := by
 refine E_fn Tryz.func130 rfl (Nat.le_of_ble_eq_true rfl) ?_
 obtain⟨a1,a2,a3⟩:=a
 obtain⟨b1,b2,b3⟩:=b
 refine E_seq ?_
 refine E_region' (L:=[0,1,2]) rfl ?_
 refine x_box rfl rfl rfl rfl rfl ?_
 refine x_box rfl rfl rfl rfl rfl ?_
 refine xas ?_
 refine EOps_nil ?_
 refine E_seq ?_
 refine E_seq ?_
 refine E_region' (L:=[0,1,2,3,4,5]) rfl ?_
 refine x_pure rfl rfl rfl (l_field rfl fo_72_0) ?_
 refine x_light rfl rfl rfl (L_load rfl (xb0 ty_70)) ?_
 refine x_pure rfl rfl rfl (l_field rfl fo_72_0) ?_
 refine x_light rfl rfl rfl (L_load rfl (xb0 ty_70)) ?_
 refine x_call rfl rfl rfl rfl rfl ca_165 (c_laws_eqCracker a1 b1) ?_ (hq:=by rintro r S ⟨rfl,rfl⟩;exact⟨rfl,rfl⟩)
 rintro r S ⟨rfl,rfl⟩
 refine x_pure rfl rfl rfl (L_not rfl rfl) ?_
 refine EOps_nil ?_
 refine E_cond rfl (fun hc10=>?_) (fun hc10=>?_)
 ·refine E_seq ?_
  refine E_region' (L:=[0]) rfl ?_
  refine xas ?_
  refine EOps_nil ?_
  refine E_ret ?_
  refine⟨_,[],rfl,rfl,bool_eq ?_,rfl⟩
  simp_all
 ·refine E_skip ?_
  refine E_seq ?_
  refine E_seq ?_
  refine E_region' (L:=[0,1,2,3,4,5]) rfl ?_
  refine x_pure rfl rfl rfl (l_field rfl fo_72_1) ?_
  refine x_light rfl rfl rfl (L_load rfl (xb0 ty_22)) ?_
  refine x_pure rfl rfl rfl (l_field rfl fo_72_1) ?_
  refine x_light rfl rfl rfl (L_load rfl (xb0 ty_22)) ?_
  refine x_call rfl rfl rfl rfl rfl ca_25 (c_laws_eqIntS a2 b2) ?_ (hq:=by rintro r S ⟨rfl,rfl⟩;exact⟨rfl,rfl⟩)
  rintro r S ⟨rfl,rfl⟩
  refine x_pure rfl rfl rfl (L_not rfl rfl) ?_
  refine EOps_nil ?_
  refine E_cond rfl (fun hc16=>?_) (fun hc16=>?_)
  ·refine E_seq ?_
   refine E_region' (L:=[0]) rfl ?_
   refine xas ?_
   refine EOps_nil ?_
   refine E_ret ?_
   refine⟨_,[],rfl,rfl,bool_eq ?_,rfl⟩
   simp_all
  ·refine E_skip ?_
   refine E_seq ?_
   refine E_seq ?_
   refine E_region' (L:=[0,1,2,3,4]) rfl ?_
   refine x_pure rfl rfl rfl (l_field rfl fo_72_2) ?_
   refine x_light rfl rfl rfl (L_load rfl (xb0 ty_3)) ?_
   refine x_pure rfl rfl rfl (l_field rfl fo_72_2) ?_
   refine x_light rfl rfl rfl (L_load rfl (xb0 ty_3)) ?_
   refine x_pure rfl rfl rfl (L_bin rfl rfl rfl rfl) ?_
   refine EOps_nil ?_
   refine E_cond rfl (fun hc21=>?_) (fun hc21=>?_)
   ·refine E_seq ?_
    refine E_region' (L:=[0]) rfl ?_
    refine xas ?_
    refine EOps_nil ?_
    refine E_ret ?_
    refine⟨_,[],rfl,rfl,bool_eq ?_,rfl⟩
    simp_all
   ·refine E_skip ?_
    refine E_seq ?_
    refine E_region' (L:=[0]) rfl ?_
    refine xas ?_
    refine EOps_nil ?_
    refine E_ret ?_
    refine⟨_,[],rfl,rfl,bool_eq ?_,rfl⟩
    simp_all

end Go.Proofs.YthlhmpknngidmaaGreat.E
