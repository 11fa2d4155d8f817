/- Walks through functions, by program out of the session's annotations. -/
import Derived.Test.YtjbbjicochipeaaGreatA11
import Derived.Test.YtjbbjicochipeaaGreatA14
import Derived.Test.YtjbbjicochipeaaGreatF4
namespace Go.Proofs.YtjbbjicochipeaaGreat.E
open Go Go.RowKit Go.Proofs
set_option linter.unusedVariables false
set_option linter.unusedSimpArgs false

abbrev byL (l:List Int):Prop:=(∀ x ∈ l,0≤x∧x≤255)∧l.length≤1048576

theorem e_tidy_A120_0 {P:Program} {N:Nat} {s:Slots} {R:List Res} {Q:Exit→Slots→List Res→Prop} {c:Code} (keep:List Nat) {base:Slots} {R':List Res} (h:ECode P N c base R' Q) (hb:keepOf s keep=base:=by simp only [E.keepOf,E.get,E.ev,E.cv,E.fill',E.fill,E.slotsOf,Res.sh,AC.sh,AC.sh.shs,AV.sh,E.splice,List.map_cons,List.map_nil,List.cons_append,List.nil_append,List.append_nil,List.length_cons,List.length_nil,List.take_zero,List.drop_zero,List.take_succ_cons,List.drop_succ_cons,List.drop_nil,List.take_nil,List.set_cons_zero,List.set_cons_succ,Nat.zero_add,Nat.add_zero,Nat.reduceAdd,Nat.reduceSub,reduceIte,Nat.reduceEqDiff,E.back,E.backR,E.ix,Res.un,AC.un,AC.un.uns,AV.un,E.un,Option.map_some,Option.map_none,Option.getD_some,List.getElem?_cons_zero,List.getElem?_cons_succ,List.getElem?_nil,curC];rfl) (hR:R=R':=by (try simp only [E.keepOf,E.get,E.ev,E.cv,E.fill',E.fill,E.slotsOf,Res.sh,AC.sh,AC.sh.shs,AV.sh,E.splice,List.map_cons,List.map_nil,List.cons_append,List.nil_append,List.append_nil,List.length_cons,List.length_nil,List.take_zero,List.drop_zero,List.take_succ_cons,List.drop_succ_cons,List.drop_nil,List.take_nil,List.set_cons_zero,List.set_cons_succ,Nat.zero_add,Nat.add_zero,Nat.reduceAdd,Nat.reduceSub,reduceIte,Nat.reduceEqDiff,E.back,E.backR,E.ix,Res.un,AC.un,AC.un.uns,AV.un,E.un,Option.map_some,Option.map_none,Option.getD_some,List.getElem?_cons_zero,List.getElem?_cons_succ,List.getElem?_nil,curC]);rfl):ECode P N c s R Q:=E_tidy keep hb hR h

set_option maxRecDepth 20000 in
set_option maxHeartbeats 2000000 in
theorem c_spec_l1New (l : List Int) (X : List Res) (hb : byL l) : EFn Tryz.prog 37 [.c (.ro (bytes l))] X (fun r S => ∃ h, r = .c (.bp X.length 0) ∧ S = X ++ [.box (curC l 0 h)]) := by
 refine E_fnK Tryz.func37 rfl (Nat.le_of_ble_eq_true rfl) ?_
 have hbl:=bytes_len l
 have hl2:=hb.2
 refine E_seq ?_
 refine E_region' (L:=[0]) rfl ?_
 refine xas ?_
 refine EOps_nil ?_
 refine E_seq ?_
 refine E_region' (L:=[0,1,2,3]) rfl ?_
 refine xmv ?_
 refine p_ rfl (l_len rfl sl_36) ?_
 refine p_ rfl xb3 ?_
 refine xas ?_
 refine EOps_nil ?_
 refine E_seq ?_
 refine E_seq ?_
 refine E_region' (L:=[0]) rfl ?_
 refine xas ?_
 refine EOps_nil ?_
 refine E_block ?_
 refine e_for (α:=Nat × Int) [0,2] (fun (k,h)=>[(4,.c (.sc (.int .i64 ((k:Int))))),(3,.c (.sc (.int .i64 (h))))]) (fun _=>_) (fun (k,h)=>k≤l.length) (fun (k,h)=>l.length - k) ((0,_)) ?_ (rfl) ⟨.inr rfl,.inr rfl,trivial⟩ ?_
 ·exact Nat.zero_le _
 rintro⟨k,h⟩ hk
 dsimp only at *
 refine E_seq ?_
 refine E_seq ?_
 refine E_region' (L:=[0,1,2,3,4,5,6,7]) rfl ?_
 refine xmv ?_
 refine xmv ?_
 refine p_ rfl (l_len rfl sl_36) ?_
 refine p_ rfl (L_bin rfl rfl rfl rfl) ?_
 refine xmv ?_
 refine EOps_split 12 (b:=_) rfl (fun hg12=>?_) (fun hg12=>?_)
 ·have hk1 : k < l.length := by simp [bytes_len] at hg12; omega
  obtain⟨x,hx⟩:=at_lt (l:=l) hk1
  have hx':=bytes_at hx
  have hxb:=hb.1 x (List.mem_of_getElem? hx)
  refine xmv ?_
  refine p_ rfl (L_bin rfl rfl rfl rfl) ?_
  refine p_ rfl (L_pick rfl rfl) ?_
  refine EOps_nil ?_
  refine E_cond rfl (fun hc15=>?_) (fun hc15=>?_)
  ·refine E_skip ?_
   refine E_seq ?_
   refine E_block ?_
   refine E_region' (L:=[0,1,2,3,4,5,6,7,8,9,10]) rfl ?_
   refine xmv ?_
   refine p_ rfl xb12 ?_
   refine xmv ?_
   refine xmv ?_
   refine p_ rfl (L_index rfl rfl (xii sl_36 ty_5)) ?_
   refine l_ rfl (L_load rfl (xb0 ty_5)) ?_
   refine p_ rfl (L_conv rfl (by kernel_rfl) (by kernel_rfl) rfl (by omega)) ?_
   refine p_ rfl xb3 ?_
   refine p_ rfl xb3 ?_
   refine p_ rfl (L_and rfl rfl rfl) ?_
   refine xas ?_
   refine EOps_nil ?_
   refine E_region' (L:=[0,1,2]) rfl ?_
   refine xmv ?_
   refine p_ rfl xb3 ?_
   refine xas ?_
   refine EOps_nil ?_
   refine⟨(k+1,_),?_,?_,rfl,⟨.inr rfl,.inr rfl,trivial⟩,⟨.inr rfl,.inr rfl,trivial⟩⟩
   ·dsimp only;omega
   dsimp only;omega
  refine E_exit ?_
  refine E_seq ?_
  refine E_region' (L:=[0,1,2,3,4]) rfl ?_
  refine xmv ?_
  refine xmv ?_
  refine p_ rfl (L_build rfl bd_97 rfl rfl) ?_
  refine x_box rfl rfl rfl rfl rfl ?_
  refine xas ?_
  refine EOps_nil ?_
  refine E_ret ?_
  exact⟨_,rfl,_,rfl,rfl⟩
 refine s_ rfl ?_
 refine s_ rfl ?_
 refine p_ rfl (L_pick rfl rfl) ?_
 refine EOps_nil ?_
 refine E_cond rfl (fun hc15=>?_) (fun hc15=>?_)
 ·exact Bool.noConfusion (hc15:false=true)
 refine E_exit ?_
 refine E_seq ?_
 refine E_region' (L:=[0,1,2,3,4]) rfl ?_
 refine xmv ?_
 refine xmv ?_
 refine p_ rfl (L_build rfl bd_97 rfl rfl) ?_
 refine x_box rfl rfl rfl rfl rfl ?_
 refine xas ?_
 refine EOps_nil ?_
 refine E_ret ?_
 exact⟨_,rfl,_,rfl,rfl⟩

set_option maxRecDepth 20000 in
set_option maxHeartbeats 2000000 in
theorem c_spec_l1Byte (l : List Int) (i h : Int) (X : List Res) (hb : byL l) (hi : curOk l i) : EFn Tryz.prog 86 [.c (.bp 0 0)] (.box (curC l i h) :: X) (fun r S => ∃ x i' h', (r = .c (.sc (.int .i64 x)) ∧ S = .box (curC l i' h') :: X) ∧ curOk l i' ∧ 0 ≤ x ∧ x ≤ 255) := by
 refine E_fnK Tryz.func86 rfl (Nat.le_of_ble_eq_true rfl) ?_
 have hbl:=bytes_len l
 have hl2:=hb.2
 obtain⟨k,rfl⟩:∃ k:Nat,i=(k:Int):=⟨i.toNat,by unfold curOk at hi;omega⟩
 refine E_seq ?_
 refine E_region' (L:=[0]) rfl ?_
 refine xas ?_
 refine EOps_nil ?_
 refine E_seq ?_
 refine E_region' (L:=[0,1,2,3,4,5,6,7,8,9]) rfl ?_
 refine xmv ?_
 refine xmv ?_
 refine p_ rfl (L_nilCheck rfl rfl rfl) ?_
 refine p_ rfl (l_field rfl fo_97_2) ?_
 refine l_ rfl (L_load rfl (xb0 ty_3)) ?_
 refine p_ rfl xb12 ?_
 refine p_ rfl xb3 ?_
 refine p_ rfl (L_nilCheck rfl rfl rfl) ?_
 refine p_ rfl (l_field rfl fo_97_2) ?_
 refine EOps_go rfl rfl (EOp_store rfl rfl rfl (xb1 ty_3) ?_)
 refine EOps_nil ?_
 refine E_seq ?_
 refine E_drawT mixed ?_
 refine tj_ 0 rfl (L_move rfl) ?_
 refine tj_ 1 rfl (L_nilCheck rfl rfl rfl) ?_
 refine tj_ 2 rfl (l_field rfl fo_97_2) ?_
 refine tl_ 3 rfl (L_load rfl (xb0 ty_3)) ?_
 refine tj_ 4 rfl (L_shr rfl rfl rfl) ?_
 refine tj_ 5 rfl (L_move rfl) ?_
 refine tj_ 6 rfl (L_nilCheck rfl rfl rfl) ?_
 refine tj_ 7 rfl (l_field rfl fo_97_2) ?_
 refine tl_ 8 rfl (L_load rfl (xb0 ty_3)) ?_
 refine tj_ 9 rfl (L_shr rfl rfl rfl) ?_
 refine tj_ 10 rfl (L_xor rfl rfl rfl) ?_
 refine tj_ 11 rfl (L_and rfl rfl rfl) ?_
 refine tj_ 12 rfl (L_assign rfl) ?_
 refine T_done (by kernel_rfl) ?_
 refine E_seq ?_
 refine E_seq ?_
 refine E_drawT mixed ?_
 refine tj_ 0 rfl (L_move rfl) ?_
 refine tj_ 1 rfl (L_nilCheck rfl rfl rfl) ?_
 refine tj_ 2 rfl (l_field rfl fo_97_1) ?_
 refine tl_ 3 rfl (L_load rfl (xb0 ty_3)) ?_
 refine tj_ 4 rfl (L_move rfl) ?_
 refine tj_ 5 rfl (L_nilCheck rfl rfl rfl) ?_
 refine tj_ 6 rfl (l_field rfl fo_97_0) ?_
 refine tl_ 7 rfl (L_load rfl (xb0 ty_36)) ?_
 refine tj_ 8 rfl (l_len rfl sl_36) ?_
 refine tj_ 9 rfl (L_bin rfl rfl rfl rfl) ?_
 refine T_done (by kernel_rfl) ?_
 refine E_cond rfl (fun hc34=>?_) (fun hc34=>?_)
 ·have hk1 : k < l.length := by simp [bytes_len] at hc34; omega
  obtain⟨x,hx⟩:=at_lt (l:=l) hk1
  have hx':=bytes_at hx
  have hxb:=hb.1 x (List.mem_of_getElem? hx)
  refine E_seq ?_
  refine E_drawT mixed ?_
  refine tj_ 0 rfl (L_move rfl) ?_
  refine tj_ 1 rfl (L_move rfl) ?_
  refine tj_ 2 rfl (L_nilCheck rfl rfl rfl) ?_
  refine tj_ 3 rfl (l_field rfl fo_97_0) ?_
  refine tl_ 4 rfl (L_load rfl (xb0 ty_36)) ?_
  refine tj_ 5 rfl (L_move rfl) ?_
  refine tj_ 6 rfl (L_nilCheck rfl rfl rfl) ?_
  refine tj_ 7 rfl (l_field rfl fo_97_1) ?_
  refine tl_ 8 rfl (L_load rfl (xb0 ty_3)) ?_
  refine tj_ 9 rfl (L_index rfl rfl (xii sl_36 ty_5)) ?_
  refine tl_ 10 rfl (L_load rfl (xb0 ty_5)) ?_
  refine tj_ 11 rfl (L_conv rfl (by kernel_rfl) (by kernel_rfl) rfl (by omega)) ?_
  refine tj_ 12 rfl xb3 ?_
  refine tj_ 13 rfl (L_and rfl rfl rfl) ?_
  refine tj_ 14 rfl (L_assign rfl) ?_
  refine T_done (by kernel_rfl) ?_
  refine E_region' (L:=[0,1,2,3,4,5,6,7,8]) rfl ?_
  refine xmv ?_
  refine xmv ?_
  refine p_ rfl (L_nilCheck rfl rfl rfl) ?_
  refine p_ rfl (l_field rfl fo_97_1) ?_
  refine l_ rfl (L_load rfl (xb0 ty_3)) ?_
  refine p_ rfl xb3 ?_
  refine p_ rfl (L_nilCheck rfl rfl rfl) ?_
  refine p_ rfl (l_field rfl fo_97_1) ?_
  refine EOps_go rfl rfl (EOp_store rfl rfl rfl (xb1 ty_3) ?_)
  refine EOps_nil ?_
  refine E_seq ?_
  refine E_region' (L:=[0,1]) rfl ?_
  refine xmv ?_
  refine xas ?_
  refine EOps_nil ?_
  refine E_ret ?_
  exact⟨_,rfl,_,_,_,⟨rfl,rfl⟩,by unfold curOk at *;omega,and_bd _ (by decide) (by decide)⟩
 refine E_skip ?_
 refine E_seq ?_
 refine E_region' (L:=[0,1]) rfl ?_
 refine xmv ?_
 refine xas ?_
 refine EOps_nil ?_
 refine E_ret ?_
 exact⟨_,rfl,_,_,_,⟨rfl,rfl⟩,by unfold curOk at *;omega,and_bd _ (by decide) (by decide)⟩

set_option maxRecDepth 20000 in
set_option maxHeartbeats 2000000 in
theorem c_spec_l1Below (l : List Int) (i h n : Int) (X : List Res) (hb : byL l) (hi : curOk l i) (hn : n ≤ 1000000000) : EFn Tryz.prog 63 [.c (.bp 0 0), .c (.sc (.int .i64 n))] (.box (curC l i h) :: X) (fun r S => ∃ x i' h', (r = .c (.sc (.int .i64 x)) ∧ S = .box (curC l i' h') :: X) ∧ curOk l i' ∧ 0 ≤ x ∧ (0 < n → x < n) ∧ (n ≤ 0 → x = 0)) := by
 refine E_fnK Tryz.func63 rfl (Nat.le_of_ble_eq_true rfl) ?_
 refine E_seq ?_
 refine E_region' (L:=[0]) rfl ?_
 refine xas ?_
 refine EOps_nil ?_
 refine E_seq ?_
 refine E_seq ?_
 refine E_region' (L:=[0,1]) rfl ?_
 refine xmv ?_
 refine p_ rfl (L_bin rfl rfl rfl rfl) ?_
 refine EOps_nil ?_
 refine E_cond rfl (fun hc10=>?_) (fun hc10=>?_)
 ·have hn0 : n ≤ 0 := by simpa using hc10
  refine E_seq ?_
  refine E_region' (L:=[0]) rfl ?_
  refine xas ?_
  refine EOps_nil ?_
  refine E_ret ?_
  exact⟨_,rfl,0,i,h,⟨rfl,rfl⟩,hi,Int.le_refl _,fun h=>absurd h (by omega),fun _=>rfl⟩
 have hn0 : 0 < n := by simp at hc10; omega
 refine E_skip ?_
 refine E_seq ?_
 refine E_seq ?_
 refine E_region' (L:=[0,1]) rfl ?_
 refine xmv ?_
 refine p_ rfl (L_bin rfl rfl rfl rfl) ?_
 refine EOps_nil ?_
 refine E_cond rfl (fun hc12=>?_) (fun hc12=>?_)
 ·refine E_seq ?_
  refine e_tidy_A120_0 [0,1,4,10,12] ?_
  refine E_region' (L:=[0,1,2,3,4]) rfl ?_
  refine xmv ?_
  refine EOps_go rfl rfl (xe1 rfl rfl rfl ca_86 (c_spec_l1Byte l i h _ hb hi) ?_)
  rintro r S ⟨x1,i1,h1,⟨rfl,rfl⟩,hi1,hx1⟩
  refine xmv ?_
  refine p_ rfl (L_rem rfl rfl rfl (by omega) (by first|decide|omega)) ?_
  refine xas ?_
  refine EOps_nil ?_
  refine E_ret ?_
  exact⟨_,rfl,x1 % n,i1,h1,⟨rfl,rfl⟩,hi1,Int.emod_nonneg _ (by omega),fun h=>Int.emod_lt_of_pos _ h,fun h=>absurd h (by omega)⟩
 refine E_skip ?_
 refine E_seq ?_
 refine e_tidy_A120_0 [0,1,4,10,12] ?_
 refine E_region' (L:=[0,1,2]) rfl ?_
 refine xmv ?_
 refine EOps_go rfl rfl (xe1 rfl rfl rfl ca_86 (c_spec_l1Byte l i h _ hb hi) ?_)
 rintro r S ⟨x1,i1,h1,⟨rfl,rfl⟩,hi1,hx1⟩
 refine xas ?_
 refine EOps_nil ?_
 refine E_seq ?_
 refine e_tidy_A120_0 [0,1,4,5,10,12] ?_
 refine E_region' (L:=[0,1,2]) rfl ?_
 refine xmv ?_
 refine EOps_go rfl rfl (xe1 rfl rfl rfl ca_86 (c_spec_l1Byte l i1 h1 _ hb hi1) ?_)
 rintro r S ⟨x2,i2,h2,⟨rfl,rfl⟩,hi2,hx2⟩
 refine xas ?_
 refine EOps_nil ?_
 refine E_seq ?_
 refine e_tidy_A120_0 [0,1,4,5,6,10,12] ?_
 refine E_region' (L:=[0,1,2]) rfl ?_
 refine xmv ?_
 refine EOps_go rfl rfl (xe1 rfl rfl rfl ca_86 (c_spec_l1Byte l i2 h2 _ hb hi2) ?_)
 rintro r S ⟨x3,i3,h3,⟨rfl,rfl⟩,hi3,hx3⟩
 refine xas ?_
 refine EOps_nil ?_
 refine E_seq ?_
 refine e_tidy_A120_0 [0,1,4,5,6,7,10,12] ?_
 refine E_region' (L:=[0,1,2]) rfl ?_
 refine xmv ?_
 refine EOps_go rfl rfl (xe1 rfl rfl rfl ca_86 (c_spec_l1Byte l i3 h3 _ hb hi3) ?_)
 rintro r S ⟨x4,i4,h4,⟨rfl,rfl⟩,hi4,hx4⟩
 refine xas ?_
 refine EOps_nil ?_
 refine E_seq ?_
 refine E_region' (L:=[0,1,2,3,4,5,6,7,8,9,10,11,12]) rfl ?_
 refine xmv ?_
 refine p_ rfl xb12 ?_
 refine xmv ?_
 refine p_ rfl xb12 ?_
 refine p_ rfl xb3 ?_
 refine xmv ?_
 refine p_ rfl xb12 ?_
 refine p_ rfl xb3 ?_
 refine xmv ?_
 refine p_ rfl xb3 ?_
 refine xmv ?_
 refine p_ rfl (L_rem rfl rfl rfl (by omega) (by first|decide|omega)) ?_
 refine xas ?_
 refine EOps_nil ?_
 refine E_ret ?_
 exact⟨_,rfl,_,i4,h4,⟨rfl,rfl⟩,hi4,Int.emod_nonneg _ (by omega),fun h=>Int.emod_lt_of_pos _ h,fun h=>absurd h (by omega)⟩

set_option maxRecDepth 20000 in
set_option maxHeartbeats 2000000 in
theorem c_spec_l1Once (l : List Int) (i h n : Int) (X : List Res) (hb : byL l) (hi : curOk l i) (hn : n ≤ 1000000000) : EFn Tryz.prog 61 [.c (.bp 0 0), .c (.sc (.int .i64 n))] (.box (curC l i h) :: X) (fun r S => ∃ b i' h', (r = .c (.sc (.bool b)) ∧ S = .box (curC l i' h') :: X) ∧ curOk l i') := by
 refine E_fnK Tryz.func61 rfl (Nat.le_of_ble_eq_true rfl) ?_
 refine E_seq ?_
 refine E_region' (L:=[0]) rfl ?_
 refine xas ?_
 refine EOps_nil ?_
 refine E_seq ?_
 refine e_tidy_A120_0 [0,1,4] ?_
 refine E_region' (L:=[0,1,2,3,4]) rfl ?_
 refine xmv ?_
 refine xmv ?_
 refine EOps_go rfl rfl (xe2 rfl rfl rfl ca_63 (c_spec_l1Below l i h n _ hb hi hn) ?_)
 rintro r S ⟨x1,i1,h1,⟨rfl,rfl⟩,hi1,hx1⟩
 refine p_ rfl (L_bin rfl rfl rfl rfl) ?_
 refine xas ?_
 refine EOps_nil ?_
 refine E_ret ?_
 exact⟨_,rfl,_,i1,h1,⟨rfl,rfl⟩,hi1⟩

set_option maxRecDepth 20000 in
set_option maxHeartbeats 2000000 in
theorem c_spec_l1PickInt (l : List Int) (i h : Int) (X : List Res) (q : Nat) (ls : List Int) (n : Nat) (hb : byL l) (hi : curOk l i) (hls : 0 < ls.length ∧ ls.length ≤ 256) (hn : ls.length = n) (hq : X[q]? = some (.row 3 1 (ints ls))) : EFn Tryz.prog 85 [.c (.bp 0 0), .c (.sl (q + 1) 0 n n)] (.box (curC l i h) :: X) (fun r S => ∃ x i' h', (r = .c (.sc (.int .i64 x)) ∧ S = .box (curC l i' h') :: X) ∧ curOk l i' ∧ x ∈ ls) := by
 refine E_fnK Tryz.func85 rfl (Nat.le_of_ble_eq_true rfl) ?_
 have hil:(ints ls).length=n:=(ints_len ls).trans hn
 refine E_seq ?_
 refine E_region' (L:=[0]) rfl ?_
 refine xas ?_
 refine EOps_nil ?_
 refine E_seq ?_
 refine e_tidy_A120_0 [0,1,4] ?_
 refine E_region' (L:=[0,1,2,3,4,5,6,7]) rfl ?_
 refine xmv ?_
 refine xmv ?_
 refine xmv ?_
 refine p_ rfl (l_len rfl sl_22) ?_
 refine EOps_go rfl rfl (xe2 rfl rfl rfl ca_63 (c_spec_l1Below l i h (n:Int) _ hb hi (by omega)) ?_)
 rintro r S ⟨x1,i1,h1,⟨rfl,rfl⟩,hi1,hx1⟩
 obtain⟨k,rfl⟩:∃ k:Nat,x1=(k:Int):=⟨x1.toNat,by omega⟩
 have hk1:k<ls.length:=by have:=hx1.2.1 (by omega);omega
 obtain⟨y,hy⟩:=at_lt (l:=ls) hk1
 refine p_ rfl (L_index rfl rfl (xii sl_22 ty_3)) ?_
 refine l_ rfl (L_load rfl (xb0 ty_3)) ?_
 refine xas ?_
 refine EOps_nil ?_
 refine E_ret ?_
 exact⟨_,rfl,y,i1,h1,⟨rfl,rfl⟩,hi1,List.mem_of_getElem? hy⟩

end Go.Proofs.YtjbbjicochipeaaGreat.E
