/- Walks through functions, by program out of the session's annotations. -/
import Derived.Test.YthlhmpknngidmaaGreatA53
import Derived.Test.YthlhmpknngidmaaGreatA08
import Derived.Test.YthlhmpknngidmaaGreatF4
namespace Go.Proofs.YthlhmpknngidmaaGreat.E
open Go Go.RowKit Go.Proofs
set_option linter.unusedVariables false
set_option linter.unusedSimpArgs false

theorem e_tidy_A57_0 {P:Program} {N:Nat} {s:Slots} {R:List Res} {Q:Exit→Slots→List Res→Prop} {c:Code} (keep:List Nat) {base:Slots} {R':List Res} (h:ECode P N c base R' Q) (hb:keepOf s keep=base:=by simp only [E.keepOf,E.get,E.ev,E.cv,E.fill',E.fill,E.slotsOf,Res.sh,AC.sh,AC.sh.shs,AV.sh,E.splice,List.map_cons,List.map_nil,List.cons_append,List.nil_append,List.append_nil,List.length_cons,List.length_nil,List.take_zero,List.drop_zero,List.take_succ_cons,List.drop_succ_cons,List.drop_nil,List.take_nil,List.set_cons_zero,List.set_cons_succ,Nat.zero_add,Nat.add_zero,Nat.reduceAdd,Nat.reduceSub,reduceIte,Nat.reduceEqDiff,E.back,E.backR,E.ix,Res.un,AC.un,AC.un.uns,AV.un,E.un,Option.map_some,Option.map_none,Option.getD_some,List.getElem?_cons_zero,List.getElem?_cons_succ,List.getElem?_nil,mpO,mpR,crkO,crkR];rfl) (hR:R=R':=by (try simp only [E.keepOf,E.get,E.ev,E.cv,E.fill',E.fill,E.slotsOf,Res.sh,AC.sh,AC.sh.shs,AV.sh,E.splice,List.map_cons,List.map_nil,List.cons_append,List.nil_append,List.append_nil,List.length_cons,List.length_nil,List.take_zero,List.drop_zero,List.take_succ_cons,List.drop_succ_cons,List.drop_nil,List.take_nil,List.set_cons_zero,List.set_cons_succ,Nat.zero_add,Nat.add_zero,Nat.reduceAdd,Nat.reduceSub,reduceIte,Nat.reduceEqDiff,E.back,E.backR,E.ix,Res.un,AC.un,AC.un.uns,AV.un,E.un,Option.map_some,Option.map_none,Option.getD_some,List.getElem?_cons_zero,List.getElem?_cons_succ,List.getElem?_nil,mpO,mpR,crkO,crkR]);rfl):ECode P N c s R Q:=E_tidy keep hb hR h
theorem e_for_A57_1 {P : Program} {N : Nat} {s : Slots} {R : List Res} {Q : Exit → Slots → List Res → Prop} {α : Type} {c : Code} (keep : List Nat) (mods : α → Slots) (Rf : α → List Res) (I : α → Prop) (m : α → Nat) (x0 : α) {base : Slots} (h0 : I x0) (hR : R = Rf x0) (h1 : chk s (mods x0))
  (round:∀ x,I x→ECode P N c (mods x++base) (Rf x) (EThen (fun s' R'=>∃ y,m y<m x∧I y∧R'=Rf y∧chk s' (mods y)∧chk s' base) Q)) (hb:keepOf s keep=base:=by simp only [E.keepOf,E.get,E.ev,E.cv,E.fill',E.fill,E.slotsOf,Res.sh,AC.sh,AC.sh.shs,AV.sh,E.splice,List.map_cons,List.map_nil,List.cons_append,List.nil_append,List.append_nil,List.length_cons,List.length_nil,List.take_zero,List.drop_zero,List.take_succ_cons,List.drop_succ_cons,List.drop_nil,List.take_nil,List.set_cons_zero,List.set_cons_succ,Nat.zero_add,Nat.add_zero,Nat.reduceAdd,Nat.reduceSub,reduceIte,Nat.reduceEqDiff,E.back,E.backR,E.ix,Res.un,AC.un,AC.un.uns,AV.un,E.un,Option.map_some,Option.map_none,Option.getD_some,List.getElem?_cons_zero,List.getElem?_cons_succ,List.getElem?_nil,mpO,mpR,crkO,crkR];rfl):ECode P N (.loop c) s R Q:=E_for keep mods Rf I m x0 hb h0 hR h1 round
theorem g_tidy_A57_2 {P:Program} {N n:Nat} {s:Slots} {R:List Res} {Q:Exit→Slots→List Res→Prop} {c:Code} (keep:List Nat) {base:Slots} {R':List Res} (h:GCode P N n c base R' Q) (hb:keepOf s keep=base:=by simp only [E.keepOf,E.get,E.ev,E.cv,E.fill',E.fill,E.slotsOf,Res.sh,AC.sh,AC.sh.shs,AV.sh,E.splice,List.map_cons,List.map_nil,List.cons_append,List.nil_append,List.append_nil,List.length_cons,List.length_nil,List.take_zero,List.drop_zero,List.take_succ_cons,List.drop_succ_cons,List.drop_nil,List.take_nil,List.set_cons_zero,List.set_cons_succ,Nat.zero_add,Nat.add_zero,Nat.reduceAdd,Nat.reduceSub,reduceIte,Nat.reduceEqDiff,E.back,E.backR,E.ix,Res.un,AC.un,AC.un.uns,AV.un,E.un,Option.map_some,Option.map_none,Option.getD_some,List.getElem?_cons_zero,List.getElem?_cons_succ,List.getElem?_nil,crkR,crkO];rfl) (hR:R=R':=by (try simp only [E.keepOf,E.get,E.ev,E.cv,E.fill',E.fill,E.slotsOf,Res.sh,AC.sh,AC.sh.shs,AV.sh,E.splice,List.map_cons,List.map_nil,List.cons_append,List.nil_append,List.append_nil,List.length_cons,List.length_nil,List.take_zero,List.drop_zero,List.take_succ_cons,List.drop_succ_cons,List.drop_nil,List.take_nil,List.set_cons_zero,List.set_cons_succ,Nat.zero_add,Nat.add_zero,Nat.reduceAdd,Nat.reduceSub,reduceIte,Nat.reduceEqDiff,E.back,E.backR,E.ix,Res.un,AC.un,AC.un.uns,AV.un,E.un,Option.map_some,Option.map_none,Option.getD_some,List.getElem?_cons_zero,List.getElem?_cons_succ,List.getElem?_nil,crkR,crkO]);rfl):GCode P N n c s R Q:=G_tidy keep hb hR h
theorem g_forD_A57_3 {P : Program} {N n : Nat} {s : Slots} {R : List Res} {Q : Exit → Slots → List Res → Prop} {α : Type} {c : Code} (keep : List Nat) (mods : α → Slots) (Rf : α → List Res) (I : α → Prop) (m : α → Nat) (x0 : α) {base : Slots} (h0 : I x0) (hR : R = Rf x0) (h1 : chk s (mods x0))
  (round:∀ x,I x→GCode P N n c (mods x++base) (Rf x) (EThen (fun s' R'=>∃ σ,okσ n R' σ=true ∧ ∃ y,m y<m x∧I y∧reR n σ R'=Rf y∧chk (renS n σ s') (mods y)∧chk (renS n σ s') base) Q)) (hb:keepOf s keep=base:=by simp only [E.keepOf,E.get,E.ev,E.cv,E.fill',E.fill,E.slotsOf,Res.sh,AC.sh,AC.sh.shs,AV.sh,E.splice,List.map_cons,List.map_nil,List.cons_append,List.nil_append,List.append_nil,List.length_cons,List.length_nil,List.take_zero,List.drop_zero,List.take_succ_cons,List.drop_succ_cons,List.drop_nil,List.take_nil,List.set_cons_zero,List.set_cons_succ,Nat.zero_add,Nat.add_zero,Nat.reduceAdd,Nat.reduceSub,reduceIte,Nat.reduceEqDiff,E.back,E.backR,E.ix,Res.un,AC.un,AC.un.uns,AV.un,E.un,Option.map_some,Option.map_none,Option.getD_some,List.getElem?_cons_zero,List.getElem?_cons_succ,List.getElem?_nil,crkR,crkO];rfl):GCode P N n (.loop c) s R Q:=G_forD keep mods Rf I m x0 hb h0 hR h1 round

set_option maxRecDepth 20000 in
set_option maxHeartbeats 2000000 in
theorem c_spec_l12Copy (m : Mp) (h : m.c.vals.length ≤ 1048576 ∧ m.c.rows.length ≤ 1048576 ∧ m.c.piv.length ≤ 1048576 ∧ m.tail.length ≤ 1048576) : EFn Tryz.prog 113 [.agg (mpC m)] [] (fun r S => r = .agg (mpO 0 m) ∧ S = mpR 3 157 m) := by
  refine E_fn Tryz.func113 rfl (Nat.le_of_ble_eq_true rfl) ?_
  refine E_seq ?_
  refine E_region' (L:=[0,1]) rfl ?_
  refine x_box rfl rfl rfl rfl rfl ?_
  refine x_alloc rfl rfl rfl rfl za_72 ?_
  refine EOps_nil ?_
  refine E_seq ?_
  refine e_tidy_A57_0 [0,1,2] ?_
  refine E_drawT mixed ?_
  refine t_old 0 rfl rfl rfl (l_field rfl fo_72_0) ?_
  refine t_light 1 rfl rfl rfl (L_load rfl (xb0 ty_70)) ?_
  refine t_old 4 rfl rfl rfl (l_field rfl fo_72_1) ?_
  refine t_light 5 rfl rfl rfl (L_load rfl (xb0 ty_22)) ?_
  refine t_old 7 rfl rfl rfl (l_field rfl fo_72_2) ?_
  refine t_light 8 rfl rfl rfl (L_load rfl (xb0 ty_3)) ?_
  refine t_fresh 2 [(⟨none,2,5,0⟩,_),(⟨some (3,6),6,9,3⟩,_)] [(5,.any),(6,.any),(9,.any)] [2,3,6] ⟨.one rfl rfl rfl (by decide) (f_call rfl rfl ca_147 (c_spec_l4Copy m.c ⟨h.1,h.2.1,h.2.2.1⟩)),.two rfl rfl rfl (by decide) (F_bslice rfl sl_22 ty_3) rfl rfl rfl (by decide) (f_append (news:=ints m.tail) (m:=(m.tail).length) rfl sl_22 ty_3 by_3 za_3 (ints_len _)),trivial⟩ ?_
  refine fk_cons ?_
  rintro r S ⟨rfl,rfl⟩
  refine fk_cons ?_
  rintro r S ⟨rfl,rfl⟩
  refine fk_nil ?_
  refine t_pure 9 rfl rfl rfl (L_build rfl bd_72 rfl rfl) ?_
  refine t_turn 10 rfl rfl (EOp_store rfl rfl rfl (xb1 ty_72) ?_)
  refine T_done (by kernel_rfl) ?_
  refine E_ret ?_
  refine⟨_,[2,3,4,5],rfl,rfl,?_,rfl⟩
  first
    | rfl
    | (refine agg_eq ?_
       simp [AC.ren.rens,AC.ren,ix,splice,AC.sh.shs,AC.sh,crkO,crkR,mpO,ints_len]
       try rfl)

set_option maxRecDepth 20000 in
set_option maxHeartbeats 8000000 in
theorem c_spec_CrackMap (m : Mp) (v : Int) (hb : m.c.vals.length ≤ 1048576 ∧ m.c.rows.length ≤ 1048576 ∧ m.c.piv.length ≤ 1048576 ∧ m.tail.length ≤ 1048576) : EFn Tryz.prog 115 [.agg (mpC m), .c (.sc (.int .i64 v))] [] (fun r S => r = .tup [(true, mpO 0 (cmM m v)), (false, [.sc (.bool (cmK m v))])] ∧ S = mpR 3 157 (cmM m v)) := by
 refine E_fn Tryz.func115 rfl (Nat.le_of_ble_eq_true rfl) ?_
 refine E_seq ?_
 refine E_region' (L:=[0,1,2]) rfl ?_
 refine x_box rfl rfl rfl rfl rfl ?_
 refine x_alloc rfl rfl rfl rfl za_72 ?_
 refine xas ?_
 refine EOps_nil ?_
 refine E_seq ?_
 refine e_tidy_A57_0 [0,1,2,4,5] ?_
 refine E_region' (L:=[0,1,2,3]) rfl ?_
 refine x_light rfl rfl rfl (L_load rfl (xb0 ty_72)) ?_
 refine x_call rfl rfl rfl rfl rfl ca_113 (c_spec_l12Copy m hb) ?_
 rintro r S ⟨rfl,rfl⟩
 refine x_alloc rfl rfl rfl rfl za_72 ?_
 refine EOps_go rfl rfl (EOp_store rfl rfl rfl (xb1 ty_72) ?_)
 refine EOps_nil ?_
 refine E_seq ?_
 refine E_seq ?_
 refine e_tidy_A57_0 [0,1,2,4,5,6] ?_
 refine E_region' (L:=[0,1,2,3,4,5,6,7]) rfl ?_
 refine x_light rfl rfl rfl (L_load rfl (xb0 ty_72)) ?_
 refine x_call rfl rfl rfl rfl rfl ca_114 (c_spec_IsMap m) ?_
 rintro r S ⟨rfl,rfl⟩
 refine x_pure rfl rfl rfl (L_not rfl rfl) ?_
 refine xmv ?_
 refine EOps_split 16 (b:=_) rfl (fun hg16=>?_) (fun hg16=>?_)
 ·refine x_skip rfl rfl rfl ?_
  refine x_skip rfl rfl rfl ?_
  refine x_skip rfl rfl rfl ?_
  refine x_pure rfl rfl rfl (L_pick rfl rfl) ?_
  refine EOps_nil ?_
  refine E_cond rfl (fun hc20=>?_) (fun hc20=>?_)
  ·have hk : cmK m v = false := by
    cases hk:cmK m v
    ·rfl
    ·exfalso
     have hcv:isMap m=true∧isIn v (-1000) 1000=true:=by simpa [cmK,bnd] using hk
     first
      | (rw [hcv.1] at hg16;exact Bool.noConfusion hg16)
      | (rw [hcv.2] at hc20;exact Bool.noConfusion hc20)
   have hM:cmM m v=m:=by rw [cmM,hk];rfl
   refine E_seq ?_
   refine E_region' (L:=[0,1,2]) rfl ?_
   refine x_light rfl rfl rfl (L_load rfl (xb0 ty_72)) ?_
   refine EOps_go rfl rfl (EOp_store rfl rfl rfl (xb1 ty_72) ?_)
   refine xas ?_
   refine EOps_nil ?_
   refine E_ret ?_
   rw [hk,hM]
   exact⟨_,[2,3,4,5],rfl,rfl,rfl,rfl⟩
  ·exact Bool.noConfusion (hc20:true=false)
 ·refine xmv ?_
  refine x_call rfl rfl rfl rfl rfl ca_59 (c_spec_l1In v (-1000) 1000) ?_
  rintro r S ⟨rfl,rfl⟩
  refine x_pure rfl rfl rfl (L_not rfl rfl) ?_
  refine x_pure rfl rfl rfl (L_pick rfl rfl) ?_
  refine EOps_nil ?_
  refine E_cond rfl (fun hc20=>?_) (fun hc20=>?_)
  ·have hk : cmK m v = false := by
    cases hk:cmK m v
    ·rfl
    ·exfalso
     have hcv:isMap m=true∧isIn v (-1000) 1000=true:=by simpa [cmK,bnd] using hk
     first
      | (rw [hcv.1] at hg16;exact Bool.noConfusion hg16)
      | (rw [hcv.2] at hc20;exact Bool.noConfusion hc20)
   have hM:cmM m v=m:=by rw [cmM,hk];rfl
   refine E_seq ?_
   refine E_region' (L:=[0,1,2]) rfl ?_
   refine x_light rfl rfl rfl (L_load rfl (xb0 ty_72)) ?_
   refine EOps_go rfl rfl (EOp_store rfl rfl rfl (xb1 ty_72) ?_)
   refine xas ?_
   refine EOps_nil ?_
   refine E_ret ?_
   rw [hk,hM]
   exact⟨_,[2,3,4,5],rfl,rfl,rfl,rfl⟩
  ·have hcv : isMap m = true ∧ bnd v = true := ⟨by simpa using hg16, by simpa [bnd] using hc20⟩
   have hk:cmK m v=true:=by simp [cmK,hcv.1,hcv.2]
   have hM:cmM m v=⟨(crackC m.c v).1,swps m.tail (crackC m.c v).2,m.app⟩:=by rw [cmM,if_pos hk];rfl
   have hmp:=map_parts hcv.1
   have hok:=crackC_ok hmp.1 hcv.2
   have hsw:=crackC_swIn hmp.1 hcv.2
   rw [← hmp.2.2.1] at hsw
   refine E_skip ?_
   refine E_seq ?_
   refine e_tidy_A57_0 [0,1,2,4,5,6,20] ?_
   refine E_region' (L:=[0,1,2,3,4,5,6,7,8,9,10,11]) rfl ?_
   refine x_pure rfl rfl rfl (l_field rfl fo_72_0) ?_
   refine x_light rfl rfl rfl (L_load rfl (xb0 ty_70)) ?_
   refine xmv ?_
   refine x_call rfl rfl rfl rfl rfl ca_149 (c_spec_CrackAt_ok m.c v hmp.1 hcv.2) ?_
   rintro r S ⟨rfl,rfl⟩
   generalize crackC m.c v=P at *
   obtain⟨c1,sw⟩:=P
   dsimp only at hM hok hsw
   refine xmv ?_
   refine x_pure rfl rfl rfl (L_extract rfl rfl) ?_
   refine x_pure rfl rfl rfl (L_extract rfl rfl) ?_
   refine x_pure rfl rfl rfl (L_extract rfl rfl) ?_
   refine x_alloc rfl rfl rfl rfl za_70 ?_
   refine EOps_go rfl rfl (EOp_store rfl rfl rfl (xb1 ty_70) ?_)
   refine xas ?_
   refine xas ?_
   refine EOps_nil ?_
   refine E_seq ?_
   refine E_region' (L:=[0,1,2]) rfl ?_
   refine x_light rfl rfl rfl (L_load rfl (xb0 ty_70)) ?_
   refine x_pure rfl rfl rfl (l_field rfl fo_72_0) ?_
   refine EOps_go rfl rfl (EOp_store rfl rfl rfl (xb1 ty_70) ?_)
   refine EOps_nil ?_
   refine E_seq ?_
   refine E_seq ?_
   refine E_region' (L:=[0]) rfl ?_
   refine xas ?_
   refine EOps_nil ?_
   refine E_block ?_
   refine e_for_A57_1 (α:=Nat) [0,1,2,4,5,6,7,8,20] (fun k=>[(10,.c (.sc (.int .i64 (k))))]) (fun k=>[.box (mpC m),_,.row 3 1 (ints m.c.vals),.row 3 1 (ints m.c.rows),.row 157 2 (pairs m.c.piv),.row 3 1 (ints (swps m.tail (sw.take k))),.box [.sl 7 0 c1.vals.length c1.vals.length,.sl 8 0 c1.rows.length c1.rows.length,.sl 9 0 c1.piv.length c1.piv.length,.sl 5 0 m.tail.length m.tail.length,.sc (.int .i64 m.app)],.row 3 1 (ints c1.vals),.row 3 1 (ints c1.rows),.row 157 2 (pairs c1.piv),.row 172 2 (pairs sw),.box (crkO 7 c1)]) (fun k=>k≤sw.length) (fun k=>sw.length - k) (0) ?_ (rfl) ⟨.inr rfl,trivial⟩ ?_
   ·simp
   rintro k hk0
   refine E_seq ?_
   refine E_seq ?_
   refine E_region' (L:=[0,1,2,3]) rfl ?_
   refine xmv ?_
   refine xmv ?_
   refine x_pure rfl rfl rfl (l_len rfl sl_167) ?_
   refine x_pure rfl rfl rfl (L_bin rfl rfl rfl rfl) ?_
   refine EOps_nil ?_
   refine E_cond rfl (fun hc35=>?_) (fun hc35=>?_)
   ·have hk1 : k < sw.length := by simpa [pairs_len] using hc35
    obtain⟨s,hs⟩:=at_lt hk1
    obtain⟨i,e,rfl,hi,he⟩:=swIn_at hsw hs
    have hst1:=swps_step (l:=m.tail) hs
    have hln1:=swps_len (sw.take k) m.tail
    generalize swps m.tail (sw.take k)=lt at *
    obtain⟨x,hx⟩:=at_lt (l:=lt) (k:=i) (by omega)
    obtain⟨y,hy⟩:=at_lt (l:=lt) (k:=e) (by omega)
    refine E_skip ?_
    refine E_seq ?_
    refine E_block ?_
    refine e_tidy_A57_0 [0,1,2,4,5,6,7,8,10,20,35] ?_
    refine E_drawT mixed ?_
    refine t_old 0 rfl rfl rfl (l_field rfl fo_72_1) ?_
    refine t_light 1 rfl rfl rfl (L_load rfl (xb0 ty_22)) ?_
    refine t_old 2 rfl rfl rfl (L_move rfl) ?_
    refine t_old 3 rfl rfl rfl (L_move rfl) ?_
    refine t_old 4 rfl rfl rfl (L_index rfl rfl (by first|exact i_ro sl_167 ty_172|exact i_sl sl_167 ty_172)) ?_
    refine t_old 5 rfl rfl rfl (l_field rfl fo_172_0) ?_
    refine t_light 6 rfl rfl rfl (L_load rfl (xb0 ty_3)) ?_
    refine t_old 7 rfl rfl rfl (L_move rfl) ?_
    refine t_old 8 rfl rfl rfl (L_move rfl) ?_
    refine t_old 9 rfl rfl rfl (L_index rfl rfl (by first|exact i_ro sl_167 ty_172|exact i_sl sl_167 ty_172)) ?_
    refine t_old 10 rfl rfl rfl (l_field rfl fo_172_1) ?_
    refine t_light 11 rfl rfl rfl (L_load rfl (xb0 ty_3)) ?_
    refine t_frame 12 [5] rfl rfl rfl rfl rfl ca_150 rfl (c_spec_l5Swap lt m.tail.length i e x y hln1 hx hy) ?_
    rintro r S ⟨r0,S0,⟨rfl,rfl⟩,rfl,rfl⟩
    refine T_done (by kernel_rfl) ?_
    refine E_region' (L:=[0,1,2]) rfl ?_
    refine xmv ?_
    refine x_pure rfl rfl rfl xb2 ?_
    refine xas ?_
    refine EOps_nil ?_
    refine⟨k+1,?_,?_,(by rw [hst1];rfl),⟨.inr rfl,trivial⟩,⟨.inr rfl,.inr rfl,.inr rfl,.inr rfl,.inr rfl,.inr rfl,.inr rfl,.inr rfl,.inr rfl,trivial⟩⟩
    ·first|omega|(dsimp only;omega)|(simp;omega)
    ·first|trivial|omega|(dsimp only;omega)|(simp;omega)
   ·have hk2 : sw.take k = sw := List.take_of_length_le (by simpa [pairs_len] using hc35)
    refine E_exit ?_
    refine E_seq ?_
    refine E_region' (L:=[0,1,2]) rfl ?_
    refine x_light rfl rfl rfl (L_load rfl (xb0 ty_72)) ?_
    refine EOps_go rfl rfl (EOp_store rfl rfl rfl (xb1 ty_72) ?_)
    refine xas ?_
    refine EOps_nil ?_
    refine E_ret ?_
    rw [hk,hM]
    refine⟨_,[7,8,9,5],rfl,rfl,?_,?_⟩
    ·simp only [mpO,crkO,swps_len];rfl
    ·rw [hk2];rfl

set_option maxRecDepth 20000 in
set_option maxHeartbeats 8000000 in
theorem c___impl_Map__crack (m : Mp) (v : Int) (hm : isMap m = true) (hv : bnd v = true) : EFn Tryz.prog 144 [.c (.bp 0 0), .c (.sc (.int .i64 v))] [.box (mpO 1 m), .row 3 1 (ints m.c.vals), .row 3 1 (ints m.c.rows), .row 157 2 (pairs m.c.piv), .row 3 1 (ints m.tail)] (fun r S => r = .tup [] ∧ S = [.box [.sl 5 0 (crkMp m v).c.vals.length (crkMp m v).c.vals.length, .sl 6 0 (crkMp m v).c.rows.length (crkMp m v).c.rows.length, .sl 7 0 (crkMp m v).c.piv.length (crkMp m v).c.piv.length, .sl 4 0 (crkMp m v).tail.length (crkMp m v).tail.length, .sc (.int .i64 (crkMp m v).app)], .row 3 1 (ints m.c.vals), .row 3 1 (ints m.c.rows), .row 157 2 (pairs m.c.piv), .row 3 1 (ints (crkMp m v).tail), .row 3 1 (ints (crkMp m v).c.vals), .row 3 1 (ints (crkMp m v).c.rows), .row 157 2 (pairs (crkMp m v).c.piv)]) := by
 refine E_fn Tryz.func144 rfl (Nat.le_of_ble_eq_true rfl) ?_
 refine E_G (n:=5) rfl ?_
 have hM:crkMp m v=⟨(crackC m.c v).1,swps m.tail (crackC m.c v).2,m.app⟩:=rfl
 have hmp:=map_parts hm
 have hl:=crk_lens hmp.1
 have hok:=crackC_ok hmp.1 hv
 have hsw:=crackC_swIn hmp.1 hv
 rw [← hmp.2.2.1] at hsw
 generalize crkMp m v=M at *
 refine G_seq ?_
 refine g_tidy_A57_2 [0,1] ?_
 refine G_region' (L:=[0,1,2,3,4,5,6,7,8,9,10,11]) rfl ?_
 refine xmv ?_
 refine x_pure rfl rfl rfl (L_nilCheck rfl rfl rfl) ?_
 refine x_pure rfl rfl rfl (l_field rfl fo_72_0) ?_
 refine x_light rfl rfl rfl (L_load rfl (xb0 ty_70)) ?_
 refine xmv ?_
 refine x_call rfl rfl rfl rfl rfl ca_167 (c_impl_crack m.c v hmp.1 hv) ?_
 rintro r S ⟨rfl,rfl⟩
 rw [crkT]
 generalize crackC m.c v=P at *
 obtain⟨c1,sw⟩:=P
 dsimp only at hM hok hsw
 subst hM
 refine xmv ?_
 refine x_pure rfl rfl rfl (L_extract rfl rfl) ?_
 refine x_pure rfl rfl rfl (L_extract rfl rfl) ?_
 refine x_alloc rfl rfl rfl rfl za_70 ?_
 refine EOps_go rfl rfl (EOp_store rfl rfl rfl (xb1 ty_70) ?_)
 refine xas ?_
 refine EOps_nil ?_
 refine G_seq ?_
 refine G_region' (L:=[0,1,2,3,4]) rfl ?_
 refine xmv ?_
 refine x_light rfl rfl rfl (L_load rfl (xb0 ty_70)) ?_
 refine x_pure rfl rfl rfl (L_nilCheck rfl rfl rfl) ?_
 refine x_pure rfl rfl rfl (l_field rfl fo_72_0) ?_
 refine EOps_go rfl rfl (EOp_store rfl rfl rfl (xb1 ty_70) ?_)
 refine EOps_nil ?_
 refine G_seq ?_
 refine G_region' (L:=[0,1,2]) rfl ?_
 refine xmv ?_
 refine x_pure rfl rfl rfl (l_len rfl sl_167) ?_
 refine xmv ?_
 refine EOps_nil ?_
 refine G_block ?_
 refine g_forD_A57_3 (α:=Nat) [0,1,4,5,21,22] (fun k=>[(23,.c (.sc (.int .i64 (k))))]) (fun k=>[.box [.sl 5 0 c1.vals.length c1.vals.length,.sl 6 0 c1.rows.length c1.rows.length,.sl 7 0 c1.piv.length c1.piv.length,.sl 4 0 m.tail.length m.tail.length,.sc (.int .i64 m.app)],.row 3 1 (ints m.c.vals),.row 3 1 (ints m.c.rows),.row 157 2 (pairs m.c.piv),.row 3 1 (ints (swps m.tail (sw.take k))),.row 3 1 (ints c1.vals),.row 3 1 (ints c1.rows),.row 157 2 (pairs c1.piv),.row 172 2 (pairs sw),.box (crkO 5 c1)]) (fun k=>k≤sw.length) (fun k=>sw.length - k) (0) ?_ (rfl) ⟨.inr rfl,trivial⟩ ?_
 ·simp
 rintro k hk0
 refine G_seq ?_
 refine G_region' (L:=[0]) rfl ?_
 refine x_pure rfl rfl rfl (L_bin rfl rfl rfl rfl) ?_
 refine EOps_nil ?_
 refine G_seq ?_
 refine G_cond rfl (fun hc24=>?_) (fun hc24=>?_)
 ·have hk1 : k < sw.length := by simpa [pairs_len] using hc24
  obtain⟨s,hs⟩:=at_lt hk1
  obtain⟨i,e,rfl,hi,he⟩:=swIn_at hsw hs
  have hst1:=swps_step (l:=m.tail) hs
  have hln1:=swps_len (sw.take k) m.tail
  generalize swps m.tail (sw.take k)=lt at *
  obtain⟨x,hx⟩:=at_lt (l:=lt) (k:=i) (by omega)
  obtain⟨y,hy⟩:=at_lt (l:=lt) (k:=e) (by omega)
  refine G_skip ?_
  refine G_seq ?_
  refine G_block ?_
  refine G_seq ?_
  refine G_region' (L:=[0,1,2,3]) rfl ?_
  refine x_pure rfl rfl rfl (L_index rfl rfl (by first|exact i_ro sl_167 ty_172|exact i_sl sl_167 ty_172)) ?_
  refine x_light rfl rfl rfl (L_load rfl (xb0 ty_172)) ?_
  refine x_alloc rfl rfl rfl rfl za_172 ?_
  refine EOps_go rfl rfl (EOp_store rfl rfl rfl (xb1 ty_172) ?_)
  refine EOps_nil ?_
  refine G_drawB mixed ?_
  refine b_pure 0 rfl rfl rfl (L_move rfl) ?_
  refine b_pure 1 rfl rfl rfl (L_nilCheck rfl rfl rfl) ?_
  refine b_pure 2 rfl rfl rfl (l_field rfl fo_72_1) ?_
  refine b_load 3 rfl rfl rfl rfl rfl (d_bp ty_22) ?_
  refine b_pure 4 rfl rfl rfl (l_field rfl fo_172_0) ?_
  refine b_load 5 rfl rfl rfl rfl rfl (d_bp ty_3) ?_
  refine b_pure 6 rfl rfl rfl (L_move rfl) ?_
  refine b_pure 7 rfl rfl rfl (L_nilCheck rfl rfl rfl) ?_
  refine b_pure 8 rfl rfl rfl (l_field rfl fo_72_1) ?_
  refine b_load 9 rfl rfl rfl rfl rfl (d_bp ty_22) ?_
  refine b_pure 10 rfl rfl rfl (l_field rfl fo_172_1) ?_
  refine b_load 11 rfl rfl rfl rfl rfl (d_bp ty_3) ?_
  refine b_pure 12 rfl rfl rfl (L_move rfl) ?_
  refine b_pure 13 rfl rfl rfl (L_nilCheck rfl rfl rfl) ?_
  refine b_pure 14 rfl rfl rfl (l_field rfl fo_72_1) ?_
  refine b_load 15 rfl rfl rfl rfl rfl (d_bp ty_22) ?_
  refine b_pure 16 rfl rfl rfl (l_field rfl fo_172_1) ?_
  refine b_load 17 rfl rfl rfl rfl rfl (d_bp ty_3) ?_
  refine b_pure 18 rfl rfl rfl (L_index rfl rfl (by first|exact i_ro sl_22 ty_3|exact i_sl sl_22 ty_3)) ?_
  refine b_pure 20 rfl rfl rfl (L_move rfl) ?_
  refine b_pure 21 rfl rfl rfl (L_nilCheck rfl rfl rfl) ?_
  refine b_pure 22 rfl rfl rfl (l_field rfl fo_72_1) ?_
  refine b_load 23 rfl rfl rfl rfl rfl (d_bp ty_22) ?_
  refine b_pure 24 rfl rfl rfl (l_field rfl fo_172_0) ?_
  refine b_load 25 rfl rfl rfl rfl rfl (d_bp ty_3) ?_
  refine b_pure 26 rfl rfl rfl (L_index rfl rfl (by first|exact i_ro sl_22 ty_3|exact i_sl sl_22 ty_3)) ?_
  refine B_two 19 27 ?_ ?_
  ·refine b_see 19 rfl rfl rfl (L_load rfl (xb13 ty_3)) ?_
   refine B_one 27 ?_
   refine b_see 27 rfl rfl rfl (L_load rfl (xb0 ty_3)) ?_
   refine b_pure 28 rfl rfl rfl (L_index rfl rfl (by first|exact i_ro sl_22 ty_3|exact i_sl sl_22 ty_3)) ?_
   refine B_one 29 ?_
   refine b_store 29 rfl rfl rfl rfl rfl rfl (s_ep ty_3) ?_
   refine b_pure 30 rfl rfl rfl (L_index rfl rfl (by first|exact i_ro sl_22 ty_3|exact i_sl sl_22 ty_3)) ?_
   refine B_one 31 ?_
   refine b_store 31 rfl rfl rfl rfl rfl rfl (s_ep (row:=[T.sc (.int .i64 y)]) ty_3 (hr:=by simp only [Int.toNat_natCast,Nat.zero_add];exact set_atI hy)) ?_
   refine B_done (by kernel_rfl) ?_
   refine G_region' (L:=[0,1]) rfl ?_
   refine x_pure rfl rfl rfl xb2 ?_
   refine xmv ?_
   refine EOps_nil ?_
   refine⟨[5,6,7,8,9],rfl,k+1,?_,?_,(by rw [hst1,← swp_of hx hy,← ints_set,← ints_set];dsimp only;simp only [Int.toNat_natCast,Nat.zero_add];rfl),⟨.inr rfl,trivial⟩,⟨.inr rfl,.inr rfl,.inr rfl,.inr rfl,.inr rfl,.inr rfl,trivial⟩⟩
   ·first|omega|(dsimp only;omega)|(simp;omega)
   ·first|trivial|omega|(dsimp only;omega)|(simp;omega)
  ·refine b_see 27 rfl rfl rfl (L_load rfl (xb13 ty_3)) ?_
   refine B_one 19 ?_
   refine b_see 19 rfl rfl rfl (L_load rfl (xb0 ty_3)) ?_
   refine b_pure 28 rfl rfl rfl (L_index rfl rfl (by first|exact i_ro sl_22 ty_3|exact i_sl sl_22 ty_3)) ?_
   refine B_one 29 ?_
   refine b_store 29 rfl rfl rfl rfl rfl rfl (s_ep ty_3) ?_
   refine b_pure 30 rfl rfl rfl (L_index rfl rfl (by first|exact i_ro sl_22 ty_3|exact i_sl sl_22 ty_3)) ?_
   refine B_one 31 ?_
   refine b_store 31 rfl rfl rfl rfl rfl rfl (s_ep (row:=[T.sc (.int .i64 y)]) ty_3 (hr:=by simp only [Int.toNat_natCast,Nat.zero_add];exact set_atI hy)) ?_
   refine B_done (by kernel_rfl) ?_
   refine G_region' (L:=[0,1]) rfl ?_
   refine x_pure rfl rfl rfl xb2 ?_
   refine xmv ?_
   refine EOps_nil ?_
   refine⟨[5,6,7,8,9],rfl,k+1,?_,?_,(by rw [hst1,← swp_of hx hy,← ints_set,← ints_set];dsimp only;simp only [Int.toNat_natCast,Nat.zero_add];rfl),⟨.inr rfl,trivial⟩,⟨.inr rfl,.inr rfl,.inr rfl,.inr rfl,.inr rfl,.inr rfl,trivial⟩⟩
   ·first|omega|(dsimp only;omega)|(simp;omega)
   ·first|trivial|omega|(dsimp only;omega)|(simp;omega)
 ·have hk2 : sw.take k = sw := List.take_of_length_le (by simpa [pairs_len] using hc24)
  refine G_exit ?_
  refine⟨_,[5,6,7],rfl,rfl,rfl,?_⟩
  simp only [swps_len]
  rw [hk2];rfl

end Go.Proofs.YthlhmpknngidmaaGreat.E
