/- Walks through functions, by program out of the session's annotations. -/
import Derived.Test.YtcepgfcolmdnoaaA121
import Derived.Test.YtcepgfcolmdnoaaA168
import Derived.Test.YtcepgfcolmdnoaaF4
namespace Go.Proofs.Ytcepgfcolmdnoaa.E
open Go Go.RowKit Go.Proofs
set_option linter.unusedVariables false
set_option linter.unusedSimpArgs false

theorem e_tidy_A170_1 {P:Program} {N:Nat} {s:Slots} {R:List Res} {Q:Exit→Slots→List Res→Prop} {c:Code} (keep:List Nat) {base:Slots} {R':List Res} (h:ECode P N c base R' Q) (hb:keepOf s keep=base:=by simp only [E.keepOf,E.get,E.ev,E.cv,E.fill',E.fill,E.slotsOf,Res.sh,AC.sh,AC.sh.shs,AV.sh,E.splice,List.map_cons,List.map_nil,List.cons_append,List.nil_append,List.append_nil,List.length_cons,List.length_nil,List.take_zero,List.drop_zero,List.take_succ_cons,List.drop_succ_cons,List.drop_nil,List.take_nil,List.set_cons_zero,List.set_cons_succ,Nat.zero_add,Nat.add_zero,Nat.reduceAdd,Nat.reduceSub,reduceIte,Nat.reduceEqDiff,E.back,E.backR,E.ix,Res.un,AC.un,AC.un.uns,AV.un,E.un,Option.map_some,Option.map_none,Option.getD_some,List.getElem?_cons_zero,List.getElem?_cons_succ,List.getElem?_nil,crkO,crkR];rfl) (hR:R=R':=by (try simp only [E.keepOf,E.get,E.ev,E.cv,E.fill',E.fill,E.slotsOf,Res.sh,AC.sh,AC.sh.shs,AV.sh,E.splice,List.map_cons,List.map_nil,List.cons_append,List.nil_append,List.append_nil,List.length_cons,List.length_nil,List.take_zero,List.drop_zero,List.take_succ_cons,List.drop_succ_cons,List.drop_nil,List.take_nil,List.set_cons_zero,List.set_cons_succ,Nat.zero_add,Nat.add_zero,Nat.reduceAdd,Nat.reduceSub,reduceIte,Nat.reduceEqDiff,E.back,E.backR,E.ix,Res.un,AC.un,AC.un.uns,AV.un,E.un,Option.map_some,Option.map_none,Option.getD_some,List.getElem?_cons_zero,List.getElem?_cons_succ,List.getElem?_nil,crkO,crkR]);rfl):ECode P N c s R Q:=E_tidy keep hb hR h

set_option maxRecDepth 20000 in
set_option maxHeartbeats 4000000 in
theorem c_spec_l17Draw (l : List Int) (hb : byL l) : EFn Try.prog 130 [.c (.ro (bytes l))] [] (fun r S => ∃ (Y : Crk) (v : Int), (r = .tup [(true, crkO 0 Y), (false, [.sc (.int .i64 v)])] ∧ S = crkR 3 129 Y) ∧ Y.vals.length ≤ 14 ∧ Y.rows.length ≤ 15 ∧ Y.piv.length ≤ 5) := by
 refine E_fn Try.func130 rfl (Nat.le_of_ble_eq_true rfl) ?_
 refine E_G (n:=0) rfl ?_
 refine G_seq ?_
 refine G_region' (L:=[0,1]) rfl ?_
 refine x_alloc rfl rfl rfl rfl za_27 ?_
 refine xas ?_
 refine EOps_nil ?_
 refine G_seq ?_
 refine g_tidy_A121_3 [0,2,3] ?_
 refine G_region' (L:=[0,1,2]) rfl ?_
 refine xmv ?_
 refine EOps_go rfl rfl (xe1 rfl rfl rfl ca_74 (c_spec_l1New l _ hb) ?_)
 rintro r S ⟨h1,rfl,rfl⟩
 refine xas ?_
 refine EOps_nil ?_
 refine G_seq ?_
 refine G_drop [0,2,3,4] [1,0] rfl rfl rfl ?_
 refine g_tidy_A121_3 [0,2,3,4] ?_
 refine G_region' (L:=[0,1,2,3]) rfl ?_
 refine xmv ?_
 refine EOps_go rfl rfl (xe1 rfl rfl rfl ca_92 (c_spec_l4Any_a l 0 h1 hb (by unfold curOk;omega)) ?_)
 rintro r S ⟨Y,i2,h2,⟨rfl,rfl⟩,hi2,hyv,hyr,hyp⟩
 refine x_alloc rfl rfl rfl rfl za_27 ?_
 refine EOps_go rfl rfl (EOp_store rfl rfl rfl (xb1 ty_27) ?_)
 refine EOps_nil ?_
 refine G_seq ?_
 refine g_tidy_A121_3 [0,2,3,4,5] ?_
 refine G_drawU mixed ?_
 refine up_ 1 rfl (L_move rfl) ?_
 refine up_ 2 rfl (l_field rfl fo_27_0) ?_
 refine u_any 0 [3] ⟨?_,?_,trivial⟩
 ·refine u_op 0 rfl rfl (EOp_light rfl (by decide) (L_load rfl (xb5 ty_27)) ?_)
  refine u_any 3 [] ⟨?_,trivial⟩
  refine u_op 3 rfl rfl (EOp_light rfl (by decide) (L_load rfl (xb0 ty_24)) ?_)
  refine up_ 4 rfl (l_len rfl sl_24) ?_
  refine up_ 5 rfl xb2 ?_
  refine u_any 6 [] ⟨?_,trivial⟩
  refine u_op 6 rfl rfl (xe2 rfl rfl rfl ca_114 (c_spec_l1Below l i2 h2 ((Y.vals.length:Int)+3) _ hb hi2 (by omega)) ?_)
  rintro r S ⟨x4,i4,h4,⟨rfl,rfl⟩,hi4,hx4⟩
  refine up_ 7 rfl xb4 ?_
  refine u_any 8 [] ⟨?_,trivial⟩
  refine u_op 8 rfl rfl (EOp_store rfl rfl rfl (xb1 ty_27) ?_)
  refine up_ 9 rfl (L_assign rfl) ?_
  refine u_done ?_
  refine G_ret ?_
  exact⟨_,[2,3,4],rfl,rfl,Y,_,⟨rfl,rfl⟩,hyv,hyr,hyp⟩
 refine u_op 3 rfl rfl (EOp_light rfl (by decide) (L_load rfl (xb5 ty_24)) ?_)
 refine up_ 4 rfl (l_len rfl sl_24) ?_
 refine up_ 5 rfl xb2 ?_
 refine u_any 0 [6] ⟨?_,?_,trivial⟩
 ·refine u_op 0 rfl rfl (EOp_light rfl (by decide) (L_load rfl (xb5 ty_27)) ?_)
  refine u_any 6 [] ⟨?_,trivial⟩
  refine u_op 6 rfl rfl (xe2 rfl rfl rfl ca_114 (c_spec_l1Below l i2 h2 ((Y.vals.length:Int)+3) _ hb hi2 (by omega)) ?_)
  rintro r S ⟨x4,i4,h4,⟨rfl,rfl⟩,hi4,hx4⟩
  refine up_ 7 rfl xb4 ?_
  refine u_any 8 [] ⟨?_,trivial⟩
  refine u_op 8 rfl rfl (EOp_store rfl rfl rfl (xb1 ty_27) ?_)
  refine up_ 9 rfl (L_assign rfl) ?_
  refine u_done ?_
  refine G_ret ?_
  exact⟨_,[2,3,4],rfl,rfl,Y,_,⟨rfl,rfl⟩,hyv,hyr,hyp⟩
 refine u_op 6 rfl rfl (xe2 rfl rfl rfl ca_114 (c_spec_l1Below l i2 h2 ((Y.vals.length : Int) + 3) _ hb hi2 (by omega)) ?_)
 rintro r S ⟨x4,i4,h4,⟨rfl,rfl⟩,hi4,hx4⟩
 refine up_ 7 rfl xb4 ?_
 refine u_any 0 [] ⟨?_,trivial⟩
 refine u_op 0 rfl rfl (EOp_light rfl (by decide) (L_load rfl (xb0 ty_27)) ?_)
 refine u_any 8 [] ⟨?_,trivial⟩
 refine u_op 8 rfl rfl (EOp_store rfl rfl rfl (xb1 ty_27) ?_)
 refine up_ 9 rfl (L_assign rfl) ?_
 refine u_done ?_
 refine G_ret ?_
 exact⟨_,[2,3,4],rfl,rfl,Y,_,⟨rfl,rfl⟩,hyv,hyr,hyp⟩

set_option maxRecDepth 20000 in
set_option maxHeartbeats 4000000 in
theorem c_spec_DrawSmallestValues (l : List Int) (hb : byL l) : EFn Try.prog 51 [.c (.ro (bytes l))] [] (fun r S => ∃ (Y : Crk) (v : Int), (r = .tup [(true, crkO 0 Y), (false, [.sc (.int .i64 v)])] ∧ S = crkR 3 129 Y) ∧ Y.vals.length ≤ 14 ∧ Y.rows.length ≤ 15 ∧ Y.piv.length ≤ 5) := by
 refine E_fn Try.func51 rfl (Nat.le_of_ble_eq_true rfl) ?_
 refine E_seq ?_
 refine E_region' (L:=[0,1]) rfl ?_
 refine x_alloc rfl rfl rfl rfl za_27 ?_
 refine xas ?_
 refine EOps_nil ?_
 refine E_seq ?_
 refine e_tidy_A170_1 [0,2,3] ?_
 refine E_region' (L:=[0,1,2,3,4,5,6,7]) rfl ?_
 refine xmv ?_
 refine x_call rfl rfl rfl rfl rfl ca_130 (c_spec_l17Draw l hb) ?_ (hq:=by rintro r S ⟨_,_,⟨rfl,rfl⟩,_,_,_⟩;exact⟨rfl,rfl⟩)
 rintro r S ⟨Y,k,⟨rfl,rfl⟩,hyv,hyr,hyp⟩
 refine xmv ?_
 refine p_ rfl (L_extract rfl rfl) ?_
 refine p_ rfl (L_extract rfl rfl) ?_
 refine x_alloc rfl rfl rfl rfl za_27 ?_
 refine EOps_go rfl rfl (EOp_store rfl rfl rfl (xb1 ty_27) ?_)
 refine xas ?_
 refine EOps_nil ?_
 refine E_seq ?_
 refine E_region' (L:=[0,1,2,3]) rfl ?_
 refine l_ rfl (L_load rfl (xb0 ty_27)) ?_
 refine xmv ?_
 refine EOps_go rfl rfl (EOp_store rfl rfl rfl (xb1 ty_27) ?_)
 refine xas ?_
 refine EOps_nil ?_
 refine E_ret ?_
 exact⟨_,[1,2,3],rfl,rfl,Y,k,⟨rfl,rfl⟩,hyv,hyr,hyp⟩

set_option maxRecDepth 20000 in
set_option maxHeartbeats 2000000 in
theorem c_impl_Levels (n : Nat) (hn : n ≤ 64) : EFn Try.prog 58 [.c (.sc (.int .i64 (n : Int))), .c (.sc (.int .i64 1))] [] (fun r S => r = .c (.sc (.int .i64 ((lev2 64 n : Nat) : Int))) ∧ S = []) := by
 refine E_fn Try.func58 rfl (Nat.le_of_ble_eq_true rfl) ?_
 refine E_seq ?_
 refine E_region' (L:=[0]) rfl ?_
 refine xas ?_
 refine EOps_nil ?_
 refine E_seq ?_
 refine E_seq ?_
 refine E_region' (L:=[0,1]) rfl ?_
 refine xmv ?_
 refine p_ rfl (L_bin rfl rfl rfl rfl) ?_
 refine EOps_nil ?_
 refine E_cond rfl (fun hc7=>?_) (fun hc7=>?_)
 ·simp at hc7
 refine E_skip ?_
 refine E_seq ?_
 refine E_region' (L:=[0]) rfl ?_
 refine xas ?_
 refine EOps_nil ?_
 refine E_seq ?_
 refine E_seq ?_
 refine E_region' (L:=[0,1,2]) rfl ?_
 refine xmv ?_
 refine p_ rfl (L_min rfl rfl rfl) ?_
 refine xas ?_
 refine EOps_nil ?_
 refine E_block ?_
 refine e_for (α:=Nat × Nat × Nat) [1,4,7] (fun (m,j,f)=>[(0,.c (.sc (.int .i64 ((m:Int))))),(5,.c (.sc (.int .i64 ((j:Int)))))]) (fun _=>_) (fun (m,j,f)=>j+lev2 f m=lev2 64 n∧m≤f∧f≤64∧j≤64) (fun (m,j,f)=>m) ((n,0,64)) ?_ (rfl) ⟨.inr (int_eq (by first|rfl|omega|(dsimp only;omega))),.inr rfl,trivial⟩ ?_
 ·exact⟨by simp,hn,Nat.le_refl _,Nat.zero_le _⟩
 rintro⟨m,j,f⟩ ⟨hj,hm,hf,hj2⟩
 dsimp only at *
 have hlv:=lev2_le 64 n
 refine E_seq ?_
 refine E_seq ?_
 refine E_region' (L:=[0,1,2]) rfl ?_
 refine xmv ?_
 refine xmv ?_
 refine p_ rfl (L_bin rfl rfl rfl rfl) ?_
 refine EOps_nil ?_
 refine E_cond rfl (fun hc12=>?_) (fun hc12=>?_)
 ·have hm1 : 1 < m := by simp at hc12; omega
  obtain⟨g,rfl,he⟩:=lev2_half (f:=f) (n:=m) (by omega) hm
  refine E_skip ?_
  refine E_seq ?_
  refine E_block ?_
  refine E_region' (L:=[0,1,2]) rfl ?_
  refine xmv ?_
  refine p_ rfl xb2 ?_
  refine xas ?_
  refine EOps_nil ?_
  refine E_region' (L:=[0,1,2]) rfl ?_
  refine xmv ?_
  refine p_ rfl (L_half m rfl rfl rfl rfl (by omega)) ?_
  refine xas ?_
  refine EOps_nil ?_
  refine⟨(m / 2,j+1,g),?_,?_,rfl,⟨.inr (int_eq (by first|rfl|(dsimp only;omega))),.inr (int_eq (by first|rfl|(dsimp only;omega))),trivial⟩,⟨.inr rfl,.inr rfl,.inr rfl,trivial⟩⟩
  ·dsimp only;omega
  exact⟨by dsimp only;omega,by dsimp only;omega,by dsimp only;omega,by dsimp only;omega⟩
 have hm1 : m ≤ 1 := by simp at hc12; omega
 have he : lev2 f m = 0 := by
  cases f with
  | zero=>rfl
  | succ g=>rw [lev2,if_pos hm1]
 refine E_exit ?_
 refine E_seq ?_
 refine E_region' (L:=[0,1]) rfl ?_
 refine xmv ?_
 refine xas ?_
 refine EOps_nil ?_
 refine E_ret ?_
 refine⟨_,[],rfl,rfl,int_eq ?_,rfl⟩
 omega

end Go.Proofs.Ytcepgfcolmdnoaa.E
