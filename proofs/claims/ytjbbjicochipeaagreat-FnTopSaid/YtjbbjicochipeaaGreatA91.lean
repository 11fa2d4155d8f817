/- Walks through functions, by program out of the session's annotations. -/
import Derived.Test.YtjbbjicochipeaaGreatA90
import Derived.Test.YtjbbjicochipeaaGreatF4
namespace Go.Proofs.YtjbbjicochipeaaGreat.E
open Go Go.RowKit Go.Proofs
set_option linter.unusedVariables false
set_option linter.unusedSimpArgs false

theorem quints_app (xs ys:List Qn):quints xs++quints ys=quints (xs++ys):=by simp [quints]
theorem quints_lenApp (xs ys:List Qn):xs.length+(quints ys).length=(xs++ys).length:=by simp [quints_len]

set_option maxRecDepth 20000 in
set_option maxHeartbeats 2000000 in
theorem c_impl_IsSettings (s : Sett) : EFn Tryz.prog 54 [.agg (setC s)] [] (fun r S => r = .c (.sc (.bool (isSet s))) ∧ S = []) := by
 refine E_fn Tryz.func54 rfl (Nat.le_of_ble_eq_true rfl) ?_
 refine E_seq ?_
 refine E_region' (L:=[0,1]) rfl ?_
 refine x_box rfl rfl rfl rfl rfl ?_
 refine xas ?_
 refine EOps_nil ?_
 refine E_seq ?_
 refine E_region' (L:=[0,1,2,3,4,5,6,7,8,9,10,11,12,13,14,15,16,17,18,19,20,21,22,23,24,25,26,27,28]) rfl ?_
 refine p_ rfl (l_field rfl fo_29_0) ?_
 refine l_ rfl (L_load rfl (xb0 ty_3)) ?_
 refine p_ rfl (L_bin rfl rfl rfl rfl) ?_
 refine xmv ?_
 refine EOps_split 6 (b:=_) rfl (fun hg6=>?_) (fun hg6=>?_)
 ·refine p_ rfl (l_field rfl fo_29_0) ?_
  refine l_ rfl (L_load rfl (xb0 ty_3)) ?_
  refine p_ rfl (L_bin rfl rfl rfl rfl) ?_
  refine p_ rfl (L_pick rfl rfl) ?_
  refine xmv ?_
  refine EOps_split 11 (b:=_) rfl (fun hg11=>?_) (fun hg11=>?_)
  ·refine p_ rfl (l_field rfl fo_29_1) ?_
   refine l_ rfl (L_load rfl (xb0 ty_3)) ?_
   refine p_ rfl (L_bin rfl rfl rfl rfl) ?_
   refine p_ rfl (L_pick rfl rfl) ?_
   refine xmv ?_
   refine EOps_split 16 (b:=_) rfl (fun hg16=>?_) (fun hg16=>?_)
   ·refine p_ rfl (l_field rfl fo_29_1) ?_
    refine l_ rfl (L_load rfl (xb0 ty_3)) ?_
    refine p_ rfl (L_bin rfl rfl rfl rfl) ?_
    refine p_ rfl (L_pick rfl rfl) ?_
    refine xmv ?_
    refine EOps_split 21 (b:=_) rfl (fun hg21=>?_) (fun hg21=>?_)
    ·refine p_ rfl (l_field rfl fo_29_2) ?_
     refine l_ rfl (L_load rfl (xb0 ty_3)) ?_
     refine p_ rfl (L_bin rfl rfl rfl rfl) ?_
     refine p_ rfl (L_pick rfl rfl) ?_
     refine xmv ?_
     refine EOps_split 26 (b:=_) rfl (fun hg26=>?_) (fun hg26=>?_)
     ·refine p_ rfl (l_field rfl fo_29_2) ?_
      refine l_ rfl (L_load rfl (xb0 ty_3)) ?_
      refine p_ rfl (L_bin rfl rfl rfl rfl) ?_
      refine p_ rfl (L_pick rfl rfl) ?_
      refine xas ?_
      refine EOps_nil ?_
      refine E_ret ?_
      refine⟨_,[],rfl,rfl,bool_eq ?_,rfl⟩
      first|(simp_all [isSet,isIn];done)|(simp_all [isSet,isIn];intros;omega)|(simp_all [isSet,isIn];omega)
     refine s_ rfl ?_
     refine s_ rfl ?_
     refine s_ rfl ?_
     refine p_ rfl (L_pick rfl rfl) ?_
     refine xas ?_
     refine EOps_nil ?_
     refine E_ret ?_
     refine⟨_,[],rfl,rfl,bool_eq ?_,rfl⟩
     first|(simp_all [isSet,isIn];done)|(simp_all [isSet,isIn];intros;omega)|(simp_all [isSet,isIn];omega)
    refine s_ rfl ?_
    refine s_ rfl ?_
    refine s_ rfl ?_
    refine p_ rfl (L_pick rfl rfl) ?_
    refine xmv ?_
    refine s_ rfl ?_
    refine s_ rfl ?_
    refine s_ rfl ?_
    refine p_ rfl (L_pick rfl rfl) ?_
    refine xas ?_
    refine EOps_nil ?_
    refine E_ret ?_
    refine⟨_,[],rfl,rfl,bool_eq ?_,rfl⟩
    first|(simp_all [isSet,isIn];done)|(simp_all [isSet,isIn];intros;omega)|(simp_all [isSet,isIn];omega)
   refine s_ rfl ?_
   refine s_ rfl ?_
   refine s_ rfl ?_
   refine p_ rfl (L_pick rfl rfl) ?_
   refine xmv ?_
   refine s_ rfl ?_
   refine s_ rfl ?_
   refine s_ rfl ?_
   refine p_ rfl (L_pick rfl rfl) ?_
   refine xmv ?_
   refine s_ rfl ?_
   refine s_ rfl ?_
   refine s_ rfl ?_
   refine p_ rfl (L_pick rfl rfl) ?_
   refine xas ?_
   refine EOps_nil ?_
   refine E_ret ?_
   refine⟨_,[],rfl,rfl,bool_eq ?_,rfl⟩
   first|(simp_all [isSet,isIn];done)|(simp_all [isSet,isIn];intros;omega)|(simp_all [isSet,isIn];omega)
  refine s_ rfl ?_
  refine s_ rfl ?_
  refine s_ rfl ?_
  refine p_ rfl (L_pick rfl rfl) ?_
  refine xmv ?_
  refine s_ rfl ?_
  refine s_ rfl ?_
  refine s_ rfl ?_
  refine p_ rfl (L_pick rfl rfl) ?_
  refine xmv ?_
  refine s_ rfl ?_
  refine s_ rfl ?_
  refine s_ rfl ?_
  refine p_ rfl (L_pick rfl rfl) ?_
  refine xmv ?_
  refine s_ rfl ?_
  refine s_ rfl ?_
  refine s_ rfl ?_
  refine p_ rfl (L_pick rfl rfl) ?_
  refine xas ?_
  refine EOps_nil ?_
  refine E_ret ?_
  refine⟨_,[],rfl,rfl,bool_eq ?_,rfl⟩
  first|(simp_all [isSet,isIn];done)|(simp_all [isSet,isIn];intros;omega)|(simp_all [isSet,isIn];omega)
 refine s_ rfl ?_
 refine s_ rfl ?_
 refine s_ rfl ?_
 refine p_ rfl (L_pick rfl rfl) ?_
 refine xmv ?_
 refine s_ rfl ?_
 refine s_ rfl ?_
 refine s_ rfl ?_
 refine p_ rfl (L_pick rfl rfl) ?_
 refine xmv ?_
 refine s_ rfl ?_
 refine s_ rfl ?_
 refine s_ rfl ?_
 refine p_ rfl (L_pick rfl rfl) ?_
 refine xmv ?_
 refine s_ rfl ?_
 refine s_ rfl ?_
 refine s_ rfl ?_
 refine p_ rfl (L_pick rfl rfl) ?_
 refine xmv ?_
 refine s_ rfl ?_
 refine s_ rfl ?_
 refine s_ rfl ?_
 refine p_ rfl (L_pick rfl rfl) ?_
 refine xas ?_
 refine EOps_nil ?_
 refine E_ret ?_
 refine⟨_,[],rfl,rfl,bool_eq ?_,rfl⟩
 first|(simp_all [isSet,isIn];done)|(simp_all [isSet,isIn];intros;omega)|(simp_all [isSet,isIn];omega)

set_option maxRecDepth 20000 in
set_option maxHeartbeats 2000000 in
theorem c_spec_IsSettings (s : Sett) : EFn Tryz.prog 28 [.agg (setC s)] [] (fun r S => r = .c (.sc (.bool (isSet s))) ∧ S = []) := by
 refine E_fn Tryz.func28 rfl (Nat.le_of_ble_eq_true rfl) ?_
 refine E_seq ?_
 refine E_region' (L:=[0,1]) rfl ?_
 refine x_box rfl rfl rfl rfl rfl ?_
 refine xas ?_
 refine EOps_nil ?_
 refine E_seq ?_
 refine e_tidy [0,1,2] ?_
 refine E_region' (L:=[0,1,2,3,4,5,6,7,8,9,10,11,12,13]) rfl ?_
 refine p_ rfl (l_field rfl fo_29_0) ?_
 refine l_ rfl (L_load rfl (xb0 ty_3)) ?_
 refine x_call rfl rfl rfl rfl rfl ca_56 (c_spec_l1In _ _ _) ?_
 rintro r S ⟨rfl,rfl⟩
 refine xmv ?_
 refine EOps_split 6 (b:=_) rfl (fun hg6=>?_) (fun hg6=>?_)
 ·refine p_ rfl (l_field rfl fo_29_1) ?_
  refine l_ rfl (L_load rfl (xb0 ty_3)) ?_
  refine x_call rfl rfl rfl rfl rfl ca_56 (c_spec_l1In _ _ _) ?_
  rintro r S ⟨rfl,rfl⟩
  refine p_ rfl (L_pick rfl rfl) ?_
  refine xmv ?_
  refine EOps_split 11 (b:=_) rfl (fun hg11=>?_) (fun hg11=>?_)
  ·refine p_ rfl (l_field rfl fo_29_2) ?_
   refine l_ rfl (L_load rfl (xb0 ty_3)) ?_
   refine x_call rfl rfl rfl rfl rfl ca_56 (c_spec_l1In _ _ _) ?_
   rintro r S ⟨rfl,rfl⟩
   refine p_ rfl (L_pick rfl rfl) ?_
   refine xas ?_
   refine EOps_nil ?_
   refine E_ret ?_
   refine⟨_,[],rfl,rfl,bool_eq ?_,rfl⟩
   simp_all [isSet]
  refine s_ rfl ?_
  refine s_ rfl ?_
  refine s_ rfl ?_
  refine p_ rfl (L_pick rfl rfl) ?_
  refine xas ?_
  refine EOps_nil ?_
  refine E_ret ?_
  refine⟨_,[],rfl,rfl,bool_eq ?_,rfl⟩
  simp_all [isSet]
 refine s_ rfl ?_
 refine s_ rfl ?_
 refine s_ rfl ?_
 refine p_ rfl (L_pick rfl rfl) ?_
 refine xmv ?_
 refine s_ rfl ?_
 refine s_ rfl ?_
 refine s_ rfl ?_
 refine p_ rfl (L_pick rfl rfl) ?_
 refine xas ?_
 refine EOps_nil ?_
 refine E_ret ?_
 refine⟨_,[],rfl,rfl,bool_eq ?_,rfl⟩
 simp_all [isSet]

set_option maxRecDepth 20000 in
set_option maxHeartbeats 2000000 in
theorem c_impl_NextSeed (x : Int) (h : 0 ≤ x ∧ x ≤ 10006) : EFn Tryz.prog 111 [.c (.sc (.int .i64 x))] [] (fun r S => r = .c (.sc (.int .i64 (nxSeed x))) ∧ S = []) := by
 refine E_fn Tryz.func111 rfl (Nat.le_of_ble_eq_true rfl) ?_
 have hx:x % 10007=x:=by omega
 refine E_seq ?_
 refine E_region' (L:=[0]) rfl ?_
 refine xas ?_
 refine EOps_nil ?_
 refine E_seq ?_
 refine E_region' (L:=[0,1,2]) rfl ?_
 refine xmv ?_
 refine p_ rfl (L_rem rfl rfl rfl (by omega) (by first|decide|omega)) ?_
 refine xas ?_
 refine EOps_nil ?_
 refine E_seq ?_
 refine E_seq ?_
 refine E_region' (L:=[0,1]) rfl ?_
 refine xmv ?_
 refine p_ rfl (L_bin rfl rfl rfl rfl) ?_
 refine EOps_nil ?_
 refine E_cond rfl (fun hc7=>?_) (fun hc7=>?_)
 ·simp at hc7;omega
 refine E_skip ?_
 refine E_seq ?_
 refine E_region' (L:=[0,1,2,3,4]) rfl ?_
 refine xmv ?_
 refine p_ rfl xb12 ?_
 refine p_ rfl xb3 ?_
 refine p_ rfl (L_rem rfl rfl rfl (by omega) (by first|decide|omega)) ?_
 refine xas ?_
 refine EOps_nil ?_
 refine E_ret ?_
 refine⟨_,[],rfl,rfl,int_eq ?_,rfl⟩
 show (x % 10007*1103+2345) % 10007=nxSeed x
 rw [hx,nxSeed]

set_option maxRecDepth 20000 in
set_option maxHeartbeats 2000000 in
theorem c_spec_NextSeed (x : Int) (h : 0 ≤ x ∧ x ≤ 10006) : EFn Tryz.prog 115 [.c (.sc (.int .i64 x))] [] (fun r S => r = .c (.sc (.int .i64 (nxSeed x))) ∧ S = []) := by
 refine E_fn Tryz.func115 rfl (Nat.le_of_ble_eq_true rfl) ?_
 have hx:(x % 10007+10007) % 10007=x:=by omega
 refine E_seq ?_
 refine E_region' (L:=[0]) rfl ?_
 refine xas ?_
 refine EOps_nil ?_
 refine E_seq ?_
 refine E_region' (L:=[0,1,2,3,4]) rfl ?_
 refine xmv ?_
 refine p_ rfl (L_rem rfl rfl rfl (by omega) (by first|decide|omega)) ?_
 refine p_ rfl xb3 ?_
 refine p_ rfl (L_rem rfl rfl rfl (by omega) (by first|decide|omega)) ?_
 refine xas ?_
 refine EOps_nil ?_
 refine E_seq ?_
 refine E_region' (L:=[0,1,2,3,4]) rfl ?_
 refine xmv ?_
 refine p_ rfl xb12 ?_
 refine p_ rfl xb3 ?_
 refine p_ rfl (L_rem rfl rfl rfl (by omega) (by first|decide|omega)) ?_
 refine xas ?_
 refine EOps_nil ?_
 refine E_ret ?_
 refine⟨_,[],rfl,rfl,int_eq ?_,rfl⟩
 show ((x % 10007+10007) % 10007*1103+2345) % 10007=nxSeed x
 rw [hx,nxSeed]

set_option maxRecDepth 20000 in
set_option maxHeartbeats 2000000 in
theorem c_impl_ChoosePivot (c : Crk) (s : Sett) (a b : Nat) (hc : isCrk c = true) (hs : isSet s = true) (hab : a < b ∧ b ≤ c.vals.length) : EFn Tryz.prog 104 [.agg (crkC c), .agg (setC s), .c (.sc (.int .i64 (a : Int))), .c (.sc (.int .i64 (b : Int)))] [] (fun r S => r = .tup [(false, [.sc (.int .i64 (chP c s a b))]), (true, setC (setN s))] ∧ S = []) := by
 refine E_fn Tryz.func104 rfl (Nat.le_of_ble_eq_true rfl) ?_
 have hl:=crk_lens hc
 have hsp:=set_parts hs
 have hsr:=nxSeed_in s.seed
 refine E_seq ?_
 refine E_region' (L:=[0,1,2,3]) rfl ?_
 refine x_box rfl rfl rfl rfl rfl ?_
 refine x_box rfl rfl rfl rfl rfl ?_
 refine xas ?_
 refine x_alloc rfl rfl rfl rfl za_29 ?_
 refine EOps_nil ?_
 refine E_seq ?_
 refine E_seq ?_
 refine e_tidy [0,1,2,3,4,5,8,9] ?_
 refine E_region' (L:=[0,1,2,3,4,5,6,7,8,9,10,11,12,13,14,15,16,17,18,19,20,21,22,23]) rfl ?_
 refine l_ rfl (L_load rfl (xb0 ty_42)) ?_
 refine x_call rfl rfl rfl rfl rfl ca_22 (c_impl_IsCracker c) ?_
 rintro r S ⟨rfl,rfl⟩
 refine p_ rfl (L_not rfl rfl) ?_
 refine xmv ?_
 refine EOps_split 13 (b:=_) rfl (fun hg13=>?_) (fun hg13=>?_)
 ·simp [hc] at hg13
 refine l_ rfl (L_load rfl (xb2 ty_29)) ?_
 refine x_call rfl rfl rfl rfl rfl ca_54 (c_impl_IsSettings s) ?_
 rintro r S ⟨rfl,rfl⟩
 refine p_ rfl (L_not rfl rfl) ?_
 refine p_ rfl (L_pick rfl rfl) ?_
 refine xmv ?_
 refine EOps_split 18 (b:=_) rfl (fun hg18=>?_) (fun hg18=>?_)
 ·simp [hs] at hg18
 refine xmv ?_
 refine p_ rfl (L_bin rfl rfl rfl rfl) ?_
 refine p_ rfl (L_pick rfl rfl) ?_
 refine xmv ?_
 refine EOps_split 22 (b:=_) rfl (fun hg22=>?_) (fun hg22=>?_)
 ·simp at hg22;omega
 refine xmv ?_
 refine xmv ?_
 refine p_ rfl (L_bin rfl rfl rfl rfl) ?_
 refine p_ rfl (L_pick rfl rfl) ?_
 refine xmv ?_
 refine EOps_split 27 (b:=_) rfl (fun hg27=>?_) (fun hg27=>?_)
 ·simp at hg27;omega
 refine xmv ?_
 refine p_ rfl (l_field rfl fo_42_0) ?_
 refine l_ rfl (L_load rfl (xb0 ty_22)) ?_
 refine p_ rfl (l_len rfl sl_22) ?_
 refine p_ rfl (L_bin rfl rfl rfl rfl) ?_
 refine p_ rfl (L_pick rfl rfl) ?_
 refine EOps_nil ?_
 refine E_cond rfl (fun hc33=>?_) (fun hc33=>?_)
 ·simp [ints_len] at hc33;omega
 refine E_skip ?_
 refine E_seq ?_
 refine E_seq ?_
 refine E_region' (L:=[0,1,2]) rfl ?_
 refine p_ rfl (l_field rfl fo_29_0) ?_
 refine l_ rfl (L_load rfl (xb0 ty_3)) ?_
 refine p_ rfl (L_bin rfl rfl rfl rfl) ?_
 refine EOps_nil ?_
 refine E_cond rfl (fun hc37=>?_) (fun hc37=>?_)
 ·have hp : s.pol = 2 := by simpa using hc37
  have h1:=Int.emod_nonneg (nxSeed s.seed) (show (b:Int) - a ≠ 0 by omega)
  have h2:=Int.emod_lt_of_pos (nxSeed s.seed) (show 0<(b:Int) - a by omega)
  obtain⟨i,hi⟩:∃ i:Nat,(a:Int)+nxSeed s.seed % ((b:Int) - a)=i:=⟨_,(Int.toNat_of_nonneg (by omega)).symm⟩
  obtain⟨x,hx⟩:=at_lt (l:=c.vals) (k:=i) (by omega)
  have hch:chP c s a b=x:=by rw [chP,if_pos hp,hi,Int.toNat_natCast,getD_x hx]
  have hsn:setN s=⟨s.pol,s.thr,nxSeed s.seed⟩:=by rw [setN,if_pos hp]
  refine E_seq ?_
  refine e_tidy [0,1,2,3,4,5,8,9,33,37] ?_
  refine E_region' (L:=[0,1,2,3,4]) rfl ?_
  refine p_ rfl (l_field rfl fo_29_2) ?_
  refine l_ rfl (L_load rfl (xb0 ty_3)) ?_
  refine x_call rfl rfl rfl rfl rfl ca_111 (c_impl_NextSeed s.seed hsp.2.2) ?_
  rintro r S ⟨rfl,rfl⟩
  refine p_ rfl (l_field rfl fo_29_2) ?_
  refine EOps_go rfl rfl (EOp_store rfl rfl rfl (xb1 ty_3) ?_)
  refine EOps_nil ?_
  refine E_seq ?_
  refine E_drawT mixed ?_
  refine tj_ 0 rfl (l_field rfl fo_42_0) ?_
  refine tl_ 1 rfl (L_load rfl (xb0 ty_22)) ?_
  refine tj_ 2 rfl (L_move rfl) ?_
  refine tj_ 3 rfl (l_field rfl fo_29_2) ?_
  refine tl_ 4 rfl (L_load rfl (xb0 ty_3)) ?_
  refine tj_ 5 rfl (L_move rfl) ?_
  refine tj_ 6 rfl (L_move rfl) ?_
  refine tj_ 7 rfl xb6 ?_
  refine tj_ 8 rfl (L_rem rfl rfl rfl (by omega) (by first|decide|omega)) ?_
  refine tj_ 9 rfl xb3 ?_
  rw [hi]
  refine tj_ 10 rfl (L_index rfl rfl (xii sl_22 ty_3)) ?_
  refine tl_ 11 rfl (L_load rfl (xb0 ty_3)) ?_
  refine tl_ 12 rfl (L_load rfl (xb0 ty_29)) ?_
  refine tj_ 13 rfl (L_assign rfl) ?_
  refine t_turn 14 rfl rfl (EOp_store rfl rfl rfl (xb1 ty_29) ?_)
  refine T_done (by kernel_rfl) ?_
  refine E_ret ?_
  rw [hch,hsn]
  exact⟨_,[],rfl,rfl,rfl,rfl⟩
 have hp : ¬ s.pol = 2 := by simpa using hc37
 have hch:chP c s a b=medI (cutV c.vals a b):=by rw [chP,if_neg hp]
 have hsn:setN s=s:=by rw [setN,if_neg hp]
 have hcl:((cutV c.vals a b).length:Int)=b - a:=cutV_len (by omega) (by omega) (by omega)
 refine E_skip ?_
 refine E_seq ?_
 refine e_tidy [0,1,2,3,4,5,8,9,33,37] ?_
 refine E_drawT mixed ?_
 refine tj_ 0 rfl (l_field rfl fo_42_0) ?_
 refine tl_ 1 rfl (L_load rfl (xb0 ty_22)) ?_
 refine tj_ 2 rfl (L_move rfl) ?_
 refine tj_ 3 rfl (L_move rfl) ?_
 refine tj_ 4 rfl (Pure.as (L_slice_roI (l:=(a:Int)) (h:=(b:Int)) rfl sl_22 ty_3 rfl rfl rfl xb13 xb13 xb13 (by first|exact fun r hr=>(ints_row _ r hr).1|exact fun r hr=>(pairs_row _ r hr).1|exact fun r hr=>(quads_row _ r hr).1|exact fun r hr=>(quints_row _ r hr).1|exact fun r hr=>(bools_row _ r hr).1)) (y':=.c (.ro (ints (cutV c.vals a b)))) (by first|(simp [ints_cut,pairs_cut,bools_cut,ints_take,pairs_take,bools_take];done)|(simp [ints_cut,pairs_cut,bools_cut,ints_take,pairs_take,bools_take];rfl))) ?_
 refine tl_ 6 rfl (L_load rfl (xb0 ty_29)) ?_
 refine t_call 5 rfl rfl rfl rfl rfl ca_112 (c_impl_MedianOf (cutV c.vals a b) (by omega) (by omega)) ?_
 rintro r S ⟨rfl,rfl⟩
 refine tj_ 7 rfl (L_assign rfl) ?_
 refine t_turn 8 rfl rfl (EOp_store rfl rfl rfl (xb1 ty_29) ?_)
 refine T_done (by kernel_rfl) ?_
 refine E_ret ?_
 rw [hch,hsn]
 exact⟨_,[],rfl,rfl,rfl,rfl⟩

set_option maxRecDepth 20000 in
set_option maxHeartbeats 2000000 in
theorem c_spec_ChoosePivot (c : Crk) (s : Sett) (a b : Nat) (hc : isCrk c = true) (hs : isSet s = true) (hab : a < b ∧ b ≤ c.vals.length) : EFn Tryz.prog 107 [.agg (crkC c), .agg (setC s), .c (.sc (.int .i64 (a : Int))), .c (.sc (.int .i64 (b : Int)))] [] (fun r S => r = .tup [(false, [.sc (.int .i64 (chP c s a b))]), (true, setC (setN s))] ∧ S = []) := by
 refine E_fn Tryz.func107 rfl (Nat.le_of_ble_eq_true rfl) ?_
 have hl:=crk_lens hc
 have hsp:=set_parts hs
 have hsr:=nxSeed_in s.seed
 refine E_seq ?_
 refine E_region' (L:=[0,1,2,3]) rfl ?_
 refine x_box rfl rfl rfl rfl rfl ?_
 refine x_box rfl rfl rfl rfl rfl ?_
 refine xas ?_
 refine x_alloc rfl rfl rfl rfl za_29 ?_
 refine EOps_nil ?_
 refine E_seq ?_
 refine E_seq ?_
 refine e_tidy [0,1,2,3,4,5,8,9] ?_
 refine E_region' (L:=[0,1,2,3,4,5,6,7,8,9,10,11,12,13,14,15,16,17,18,19,20,21,22,23]) rfl ?_
 refine l_ rfl (L_load rfl (xb0 ty_42)) ?_
 refine x_call rfl rfl rfl rfl rfl ca_67 (c_spec_IsCracker c) ?_
 rintro r S ⟨rfl,rfl⟩
 refine p_ rfl (L_not rfl rfl) ?_
 refine xmv ?_
 refine EOps_split 14 (b:=_) rfl (fun hg14=>?_) (fun hg14=>?_)
 ·simp [hc] at hg14
 refine l_ rfl (L_load rfl (xb2 ty_29)) ?_
 refine x_call rfl rfl rfl rfl rfl ca_28 (c_spec_IsSettings s) ?_
 rintro r S ⟨rfl,rfl⟩
 refine p_ rfl (L_not rfl rfl) ?_
 refine p_ rfl (L_pick rfl rfl) ?_
 refine xmv ?_
 refine EOps_split 19 (b:=_) rfl (fun hg19=>?_) (fun hg19=>?_)
 ·simp [hs] at hg19
 refine xmv ?_
 refine p_ rfl (L_bin rfl rfl rfl rfl) ?_
 refine p_ rfl (L_pick rfl rfl) ?_
 refine xmv ?_
 refine EOps_split 23 (b:=_) rfl (fun hg23=>?_) (fun hg23=>?_)
 ·simp at hg23;omega
 refine xmv ?_
 refine xmv ?_
 refine p_ rfl (L_bin rfl rfl rfl rfl) ?_
 refine p_ rfl (L_pick rfl rfl) ?_
 refine xmv ?_
 refine EOps_split 28 (b:=_) rfl (fun hg28=>?_) (fun hg28=>?_)
 ·simp at hg28;omega
 refine xmv ?_
 refine p_ rfl (l_field rfl fo_42_0) ?_
 refine l_ rfl (L_load rfl (xb0 ty_22)) ?_
 refine p_ rfl (l_len rfl sl_22) ?_
 refine p_ rfl (L_bin rfl rfl rfl rfl) ?_
 refine p_ rfl (L_pick rfl rfl) ?_
 refine EOps_nil ?_
 refine E_cond rfl (fun hc34=>?_) (fun hc34=>?_)
 ·simp [ints_len] at hc34;omega
 refine E_skip ?_
 refine E_seq ?_
 refine E_region' (L:=[0,1,2]) rfl ?_
 refine l_ rfl (L_load rfl (xb0 ty_29)) ?_
 refine x_alloc rfl rfl rfl rfl za_29 ?_
 refine EOps_go rfl rfl (EOp_store rfl rfl rfl (xb1 ty_29) ?_)
 refine EOps_nil ?_
 refine E_seq ?_
 refine E_seq ?_
 refine E_region' (L:=[0,1,2]) rfl ?_
 refine p_ rfl (l_field rfl fo_29_0) ?_
 refine l_ rfl (L_load rfl (xb0 ty_3)) ?_
 refine p_ rfl (L_bin rfl rfl rfl rfl) ?_
 refine EOps_nil ?_
 refine E_cond rfl (fun hc39=>?_) (fun hc39=>?_)
 ·have hp : s.pol = 2 := by simpa using hc39
  have h1:=Int.emod_nonneg (nxSeed s.seed) (show (b:Int) - a ≠ 0 by omega)
  have h2:=Int.emod_lt_of_pos (nxSeed s.seed) (show 0<(b:Int) - a by omega)
  obtain⟨i,hi⟩:∃ i:Nat,(a:Int)+nxSeed s.seed % ((b:Int) - a)=i:=⟨_,(Int.toNat_of_nonneg (by omega)).symm⟩
  obtain⟨x,hx⟩:=at_lt (l:=c.vals) (k:=i) (by omega)
  have hch:chP c s a b=x:=by rw [chP,if_pos hp,hi,Int.toNat_natCast,getD_x hx]
  have hsn:setN s=⟨s.pol,s.thr,nxSeed s.seed⟩:=by rw [setN,if_pos hp]
  refine E_seq ?_
  refine e_tidy [0,1,2,3,4,5,8,9,10,34,39] ?_
  refine E_region' (L:=[0,1,2,3,4]) rfl ?_
  refine p_ rfl (l_field rfl fo_29_2) ?_
  refine l_ rfl (L_load rfl (xb0 ty_3)) ?_
  refine x_call rfl rfl rfl rfl rfl ca_115 (c_spec_NextSeed s.seed hsp.2.2) ?_
  rintro r S ⟨rfl,rfl⟩
  refine p_ rfl (l_field rfl fo_29_2) ?_
  refine EOps_go rfl rfl (EOp_store rfl rfl rfl (xb1 ty_3) ?_)
  refine EOps_nil ?_
  refine E_seq ?_
  refine E_drawT mixed ?_
  refine tj_ 0 rfl (l_field rfl fo_42_0) ?_
  refine tl_ 1 rfl (L_load rfl (xb0 ty_22)) ?_
  refine tj_ 2 rfl (L_move rfl) ?_
  refine tj_ 3 rfl (l_field rfl fo_29_2) ?_
  refine tl_ 4 rfl (L_load rfl (xb0 ty_3)) ?_
  refine tj_ 5 rfl (L_move rfl) ?_
  refine tj_ 6 rfl (L_move rfl) ?_
  refine tj_ 7 rfl xb6 ?_
  refine tj_ 8 rfl (L_rem rfl rfl rfl (by omega) (by first|decide|omega)) ?_
  refine tj_ 9 rfl xb3 ?_
  rw [hi]
  refine tj_ 10 rfl (L_index rfl rfl (xii sl_22 ty_3)) ?_
  refine tl_ 11 rfl (L_load rfl (xb0 ty_3)) ?_
  refine tl_ 12 rfl (L_load rfl (xb0 ty_29)) ?_
  refine tj_ 13 rfl (L_assign rfl) ?_
  refine t_turn 14 rfl rfl (EOp_store rfl rfl rfl (xb1 ty_29) ?_)
  refine T_done (by kernel_rfl) ?_
  refine E_ret ?_
  rw [hch,hsn]
  exact⟨_,[],rfl,rfl,rfl,rfl⟩
 have hp : ¬ s.pol = 2 := by simpa using hc39
 have hch:chP c s a b=medI (cutV c.vals a b):=by rw [chP,if_neg hp]
 have hsn:setN s=s:=by rw [setN,if_neg hp]
 have hcl:((cutV c.vals a b).length:Int)=b - a:=cutV_len (by omega) (by omega) (by omega)
 refine E_skip ?_
 refine E_seq ?_
 refine e_tidy [0,1,2,3,4,5,8,9,10,34,39] ?_
 refine E_drawT mixed ?_
 refine tj_ 0 rfl (l_field rfl fo_42_0) ?_
 refine tl_ 1 rfl (L_load rfl (xb0 ty_22)) ?_
 refine tj_ 2 rfl (L_move rfl) ?_
 refine tj_ 3 rfl (L_move rfl) ?_
 refine tj_ 4 rfl (Pure.as (L_slice_roI (l:=(a:Int)) (h:=(b:Int)) rfl sl_22 ty_3 rfl rfl rfl xb13 xb13 xb13 (by first|exact fun r hr=>(ints_row _ r hr).1|exact fun r hr=>(pairs_row _ r hr).1|exact fun r hr=>(quads_row _ r hr).1|exact fun r hr=>(quints_row _ r hr).1|exact fun r hr=>(bools_row _ r hr).1)) (y':=.c (.ro (ints (cutV c.vals a b)))) (by first|(simp [ints_cut,pairs_cut,bools_cut,ints_take,pairs_take,bools_take];done)|(simp [ints_cut,pairs_cut,bools_cut,ints_take,pairs_take,bools_take];rfl))) ?_
 refine tl_ 6 rfl (L_load rfl (xb0 ty_29)) ?_
 refine t_call 5 rfl rfl rfl rfl rfl ca_116 (c_spec_MedianOf (cutV c.vals a b) (by omega) (by omega)) ?_
 rintro r S ⟨rfl,rfl⟩
 refine tj_ 7 rfl (L_assign rfl) ?_
 refine t_turn 8 rfl rfl (EOp_store rfl rfl rfl (xb1 ty_29) ?_)
 refine T_done (by kernel_rfl) ?_
 refine E_ret ?_
 rw [hch,hsn]
 exact⟨_,[],rfl,rfl,rfl,rfl⟩

end Go.Proofs.YtjbbjicochipeaaGreat.E
