/- Walks through functions, by program out of the session's annotations. -/
import Derived.Test.YthlhmpknngidmaaGreatA57
import Derived.Test.YthlhmpknngidmaaGreatF4
namespace Go.Proofs.YthlhmpknngidmaaGreat.E
open Go Go.RowKit Go.Proofs
set_option linter.unusedVariables false
set_option linter.unusedSimpArgs false

theorem g_tidy_A59_0 {P:Program} {N n:Nat} {s:Slots} {R:List Res} {Q:Exit→Slots→List Res→Prop} {c:Code} (keep:List Nat) {base:Slots} {R':List Res} (h:GCode P N n c base R' Q) (hb:keepOf s keep=base:=by simp only [E.keepOf,E.get,E.ev,E.cv,E.fill',E.fill,E.slotsOf,Res.sh,AC.sh,AC.sh.shs,AV.sh,E.splice,List.map_cons,List.map_nil,List.cons_append,List.nil_append,List.append_nil,List.length_cons,List.length_nil,List.take_zero,List.drop_zero,List.take_succ_cons,List.drop_succ_cons,List.drop_nil,List.take_nil,List.set_cons_zero,List.set_cons_succ,Nat.zero_add,Nat.add_zero,Nat.reduceAdd,Nat.reduceSub,reduceIte,Nat.reduceEqDiff,E.back,E.backR,E.ix,Res.un,AC.un,AC.un.uns,AV.un,E.un,Option.map_some,Option.map_none,Option.getD_some,List.getElem?_cons_zero,List.getElem?_cons_succ,List.getElem?_nil,mpO,mpR,crkO,crkR];rfl) (hR:R=R':=by (try simp only [E.keepOf,E.get,E.ev,E.cv,E.fill',E.fill,E.slotsOf,Res.sh,AC.sh,AC.sh.shs,AV.sh,E.splice,List.map_cons,List.map_nil,List.cons_append,List.nil_append,List.append_nil,List.length_cons,List.length_nil,List.take_zero,List.drop_zero,List.take_succ_cons,List.drop_succ_cons,List.drop_nil,List.take_nil,List.set_cons_zero,List.set_cons_succ,Nat.zero_add,Nat.add_zero,Nat.reduceAdd,Nat.reduceSub,reduceIte,Nat.reduceEqDiff,E.back,E.backR,E.ix,Res.un,AC.un,AC.un.uns,AV.un,E.un,Option.map_some,Option.map_none,Option.getD_some,List.getElem?_cons_zero,List.getElem?_cons_succ,List.getElem?_nil,mpO,mpR,crkO,crkR]);rfl):GCode P N n c s R Q:=G_tidy keep hb hR h
theorem g_forD_A59_1 {P : Program} {N n : Nat} {s : Slots} {R : List Res} {Q : Exit → Slots → List Res → Prop} {α : Type} {c : Code} (keep : List Nat) (mods : α → Slots) (Rf : α → List Res) (I : α → Prop) (m : α → Nat) (x0 : α) {base : Slots} (h0 : I x0) (hR : R = Rf x0) (h1 : chk s (mods x0))
  (round:∀ x,I x→GCode P N n c (mods x++base) (Rf x) (EThen (fun s' R'=>∃ σ,okσ n R' σ=true ∧ ∃ y,m y<m x∧I y∧reR n σ R'=Rf y∧chk (renS n σ s') (mods y)∧chk (renS n σ s') base) Q)) (hb:keepOf s keep=base:=by simp only [E.keepOf,E.get,E.ev,E.cv,E.fill',E.fill,E.slotsOf,Res.sh,AC.sh,AC.sh.shs,AV.sh,E.splice,List.map_cons,List.map_nil,List.cons_append,List.nil_append,List.append_nil,List.length_cons,List.length_nil,List.take_zero,List.drop_zero,List.take_succ_cons,List.drop_succ_cons,List.drop_nil,List.take_nil,List.set_cons_zero,List.set_cons_succ,Nat.zero_add,Nat.add_zero,Nat.reduceAdd,Nat.reduceSub,reduceIte,Nat.reduceEqDiff,E.back,E.backR,E.ix,Res.un,AC.un,AC.un.uns,AV.un,E.un,Option.map_some,Option.map_none,Option.getD_some,List.getElem?_cons_zero,List.getElem?_cons_succ,List.getElem?_nil,mpO,mpR,crkO,crkR];rfl):GCode P N n (.loop c) s R Q:=G_forD keep mods Rf I m x0 hb h0 hR h1 round

set_option maxRecDepth 20000 in
set_option maxHeartbeats 2000000 in
theorem c_impl_isHistory (h : List Int) : EFn Tryz.prog 104 [.c (.ro (ints h))] [] (fun r S => r = .c (.sc (.bool (isHist h))) ∧ S = []) := by
  refine E_fn Tryz.func104 rfl (Nat.le_of_ble_eq_true rfl) ?_
  refine E_seq ?_
  refine E_region' (L:=[0]) rfl ?_
  refine xas ?_
  refine EOps_nil ?_
  refine E_seq ?_
  refine E_region' (L:=[0,1,2,3,4,5,6,7]) rfl ?_
  refine xmv ?_
  refine x_pure rfl rfl rfl (l_len rfl sl_22) ?_
  refine x_pure rfl rfl rfl (L_bin rfl rfl rfl rfl) ?_
  refine xmv ?_
  refine EOps_split 6 (b:=_) rfl (fun hg6=>?_) (fun hg6=>?_)
  · refine xmv ?_
    refine x_call rfl rfl rfl rfl rfl ca_105 (c_impl_within h (-1000) 1000) ?_
    rintro r S ⟨rfl,rfl⟩
    refine x_pure rfl rfl rfl (L_pick rfl rfl) ?_
    refine xas ?_
    refine EOps_nil ?_
    refine E_ret ?_
    refine⟨_,[],rfl,rfl,bool_eq ?_,rfl⟩
    first
      | (have h1 : h.length ≤ 60 := by simp [ints_len] at hg6; omega
         simp [isHist,h1,bnd,isIn];done)
      | (have h1 : ¬ h.length ≤ 60 := by simp [ints_len] at hg6; omega
         simp [isHist,h1])
  · refine x_skip rfl rfl rfl ?_
    refine x_skip rfl rfl rfl ?_
    refine x_pure rfl rfl rfl (L_pick rfl rfl) ?_
    refine xas ?_
    refine EOps_nil ?_
    refine E_ret ?_
    refine⟨_,[],rfl,rfl,bool_eq ?_,rfl⟩
    first
      | (have h1 : h.length ≤ 60 := by simp [ints_len] at hg6; omega
         simp [isHist,h1,bnd,isIn];done)
      | (have h1 : ¬ h.length ≤ 60 := by simp [ints_len] at hg6; omega
         simp [isHist,h1])

set_option maxRecDepth 20000 in
set_option maxHeartbeats 2000000 in
theorem c_spec_l12History (h : List Int) : EFn Tryz.prog 111 [.c (.ro (ints h))] [] (fun r S => r = .c (.sc (.bool (isHist h))) ∧ S = []) := by
 refine E_fn Tryz.func111 rfl (Nat.le_of_ble_eq_true rfl) ?_
 refine E_bound (t:=0) (rows:=ints h) rfl fun hbd=>?_
 rw [ints_len] at hbd
 refine E_seq ?_
 refine E_region' (L:=[0]) rfl ?_
 refine xas ?_
 refine EOps_nil ?_
 refine E_seq ?_
 refine E_seq ?_
 refine E_region' (L:=[0]) rfl ?_
 refine xas ?_
 refine EOps_nil ?_
 refine E_block ?_
 refine e_for (α:=Nat) [0] (fun k=>[(3,.c (.sc (.int .i64 (k))))]) (fun _=>_) (fun k=>k≤h.length∧(h.take k).all bnd=true) (fun k=>h.length - k) (0) ?_ (rfl) ⟨.inr rfl,trivial⟩ ?_
 ·exact⟨Nat.zero_le _,rfl⟩
 rintro k ⟨hk,hall⟩
 refine E_seq ?_
 refine E_seq ?_
 refine E_region' (L:=[0,1,2,3]) rfl ?_
 refine xmv ?_
 refine xmv ?_
 refine x_pure rfl rfl rfl (l_len rfl sl_22) ?_
 refine x_pure rfl rfl rfl (L_bin rfl rfl rfl rfl) ?_
 refine EOps_nil ?_
 refine E_cond rfl (fun hc7=>?_) (fun hc7=>?_)
 ·have hc7' : k < (h).length := by simpa [ints_len, bools_len, pairs_len, quads_len, quints_len] using hc7
  obtain⟨x,hx⟩:∃ x,(h)[k]? = some x:=⟨_,List.getElem?_eq_getElem hc7'⟩
  refine E_skip ?_
  refine E_seq ?_
  refine E_block ?_
  refine E_seq ?_
  refine E_region' (L:=[0,1,2,3,4,5]) rfl ?_
  refine xmv ?_
  refine xmv ?_
  refine x_pure rfl rfl rfl (L_index rfl rfl (by first|exact i_ro sl_22 ty_3|exact i_sl sl_22 ty_3)) ?_
  refine x_light rfl rfl rfl (L_load rfl (xb0 ty_3)) ?_
  refine x_call rfl rfl rfl rfl rfl ca_59 (c_spec_l1In x (-1000) 1000) ?_
  rintro r S ⟨rfl,rfl⟩
  refine x_pure rfl rfl rfl (L_not rfl rfl) ?_
  refine EOps_nil ?_
  refine E_cond rfl (fun hc15=>?_) (fun hc15=>?_)
  ·have hf : isHist h = false := by
    have h1:bnd x=false:=by simpa [bnd] using hc15
    have h2 : h.all bnd = false := by
     cases hb:h.all bnd
     ·rfl
     ·have := List.all_eq_true.1 hb x (List.mem_of_getElem? hx)
      rw [h1] at this;cases this
    simp [isHist,h2]
   refine E_seq ?_
   refine E_region' (L:=[0]) rfl ?_
   refine xas ?_
   refine EOps_nil ?_
   refine E_ret ?_
   refine⟨_,[],rfl,rfl,?_,rfl⟩
   rw [hf];rfl
  ·refine E_skip ?_
   refine E_region' (L:=[0,1,2]) rfl ?_
   refine xmv ?_
   refine x_pure rfl rfl rfl xb2 ?_
   refine xas ?_
   refine EOps_nil ?_
   refine⟨k+1,?_,?_,rfl,⟨.inr rfl,trivial⟩,⟨.inr rfl,trivial⟩⟩
   ·first|omega|(dsimp only;omega)|(simp;omega)
   ·refine ⟨by omega, ?_⟩
    have h1:bnd x=true:=by simpa [bnd] using hc15
    rw [take_snoc hx,List.all_append,hall]
    simp [h1]
 ·have hf : isHist h = decide (h.length ≤ 60) := by
   have h1:h.length≤k:=by simpa [ints_len] using hc7
   rw [List.take_of_length_le h1] at hall
   simp [isHist,hall]
  refine E_exit ?_
  refine E_seq ?_
  refine E_region' (L:=[0,1,2,3]) rfl ?_
  refine xmv ?_
  refine x_pure rfl rfl rfl (l_len rfl sl_22) ?_
  refine x_pure rfl rfl rfl (L_bin rfl rfl rfl rfl) ?_
  refine xas ?_
  refine EOps_nil ?_
  refine E_ret ?_
  refine⟨_,[],rfl,rfl,bool_eq ?_,rfl⟩
  rw [hf];simp [ints_len];omega

set_option maxRecDepth 20000 in
set_option maxHeartbeats 8000000 in
theorem c_spec_AlignMap (m : Mp) (h : List Int) (hb : m.c.vals.length ≤ 1048576 ∧ m.c.rows.length ≤ 1048576 ∧ m.c.piv.length ≤ 1048576 ∧ m.tail.length ≤ 1048576) : EFn Tryz.prog 44 [.agg (mpC m), .c (.ro (ints h))] [] (fun r S => r = .tup [(true, mpO 0 (alM m h)), (false, [.sc (.int .i64 (alN m h))]), (false, [.sc (.bool (alK m h))])] ∧ S = mpR 3 157 (alM m h)) := by
 refine E_fn Tryz.func44 rfl (Nat.le_of_ble_eq_true rfl) ?_
 refine E_G (n:=0) rfl ?_
 refine G_seq ?_
 refine G_region' (L:=[0,1,2,3]) rfl ?_
 refine x_box rfl rfl rfl rfl rfl ?_
 refine x_alloc rfl rfl rfl rfl za_72 ?_
 refine xas ?_
 refine xas ?_
 refine EOps_nil ?_
 refine G_seq ?_
 refine g_tidy_A59_0 [0,1,2,4,5,6] ?_
 refine G_region' (L:=[0,1,2,3]) rfl ?_
 refine x_light rfl rfl rfl (L_load rfl (xb0 ty_72)) ?_
 refine x_call rfl rfl rfl rfl rfl ca_113 (c_spec_l12Copy m hb) ?_
 rintro r S ⟨rfl,rfl⟩
 refine x_alloc rfl rfl rfl rfl za_72 ?_
 refine EOps_go rfl rfl (EOp_store rfl rfl rfl (xb1 ty_72) ?_)
 refine EOps_nil ?_
 refine G_seq ?_
 refine G_seq ?_
 refine g_tidy_A59_0 [0,1,2,4,5,6,7] ?_
 refine G_region' (L:=[0,1,2,3,4,5,6,7,8,9,10,11,12,13,14]) rfl ?_
 refine x_light rfl rfl rfl (L_load rfl (xb0 ty_72)) ?_
 refine x_call rfl rfl rfl rfl rfl ca_114 (c_spec_IsMap m) ?_
 rintro r S ⟨rfl,rfl⟩
 refine x_pure rfl rfl rfl (L_not rfl rfl) ?_
 refine xmv ?_
 refine EOps_split 16 (b:=_) rfl (fun hg16=>?_) (fun hg16=>?_)
 ·refine x_skip rfl rfl rfl ?_
  refine x_skip rfl rfl rfl ?_
  refine x_skip rfl rfl rfl ?_
  refine x_pure rfl rfl rfl (L_pick rfl rfl) ?_
  refine xmv ?_
  refine x_skip rfl rfl rfl ?_
  refine x_skip rfl rfl rfl ?_
  refine x_skip rfl rfl rfl ?_
  refine x_skip rfl rfl rfl ?_
  refine x_skip rfl rfl rfl ?_
  refine x_pure rfl rfl rfl (L_pick rfl rfl) ?_
  refine EOps_nil ?_
  refine G_cond rfl (fun hc27=>?_) (fun hc27=>?_)
  ·have hk : alK m h = false := by
    cases hk:alK m h
    ·rfl
    ·exfalso
     have hcv:(isMap m=true∧isHist h=true)∧m.app≤h.length:=by simpa [alK] using hk
     first
      | (rw [hcv.1.1] at hg16;exact Bool.noConfusion hg16)
      | (rw [hcv.1.2] at hg21;exact Bool.noConfusion hg21)
      | (simp [ints_len] at hc27;omega)
   have hM:alM m h=m:=by rw [alM,hk];rfl
   have hN:alN m h=0:=by rw [alN,hk];rfl
   refine G_seq ?_
   refine G_region' (L:=[0,1,2,3]) rfl ?_
   refine x_light rfl rfl rfl (L_load rfl (xb0 ty_72)) ?_
   refine EOps_go rfl rfl (EOp_store rfl rfl rfl (xb1 ty_72) ?_)
   refine xas ?_
   refine xas ?_
   refine EOps_nil ?_
   refine G_ret ?_
   rw [hk,hM,hN]
   exact⟨_,[2,3,4,5],rfl,rfl,rfl,rfl⟩
  ·exact Bool.noConfusion (hc27:true=false)
 ·refine xmv ?_
  refine x_call rfl rfl rfl rfl rfl ca_111 (c_spec_l12History h) ?_
  rintro r S ⟨rfl,rfl⟩
  refine x_pure rfl rfl rfl (L_not rfl rfl) ?_
  refine x_pure rfl rfl rfl (L_pick rfl rfl) ?_
  refine xmv ?_
  refine EOps_split 21 (b:=_) rfl (fun hg21=>?_) (fun hg21=>?_)
  ·refine x_skip rfl rfl rfl ?_
   refine x_skip rfl rfl rfl ?_
   refine x_skip rfl rfl rfl ?_
   refine x_skip rfl rfl rfl ?_
   refine x_skip rfl rfl rfl ?_
   refine x_pure rfl rfl rfl (L_pick rfl rfl) ?_
   refine EOps_nil ?_
   refine G_cond rfl (fun hc27=>?_) (fun hc27=>?_)
   ·have hk : alK m h = false := by
     cases hk:alK m h
     ·rfl
     ·exfalso
      have hcv:(isMap m=true∧isHist h=true)∧m.app≤h.length:=by simpa [alK] using hk
      first
       | (rw [hcv.1.1] at hg16;exact Bool.noConfusion hg16)
       | (rw [hcv.1.2] at hg21;exact Bool.noConfusion hg21)
       | (simp [ints_len] at hc27;omega)
    have hM:alM m h=m:=by rw [alM,hk];rfl
    have hN:alN m h=0:=by rw [alN,hk];rfl
    refine G_seq ?_
    refine G_region' (L:=[0,1,2,3]) rfl ?_
    refine x_light rfl rfl rfl (L_load rfl (xb0 ty_72)) ?_
    refine EOps_go rfl rfl (EOp_store rfl rfl rfl (xb1 ty_72) ?_)
    refine xas ?_
    refine xas ?_
    refine EOps_nil ?_
    refine G_ret ?_
    rw [hk,hM,hN]
    exact⟨_,[2,3,4,5],rfl,rfl,rfl,rfl⟩
   ·exact Bool.noConfusion (hc27:true=false)
  ·refine x_pure rfl rfl rfl (l_field rfl fo_72_2) ?_
   refine x_light rfl rfl rfl (L_load rfl (xb0 ty_3)) ?_
   refine xmv ?_
   refine x_pure rfl rfl rfl (l_len rfl sl_22) ?_
   refine x_pure rfl rfl rfl (L_bin rfl rfl rfl rfl) ?_
   refine x_pure rfl rfl rfl (L_pick rfl rfl) ?_
   refine EOps_nil ?_
   refine G_cond rfl (fun hc27=>?_) (fun hc27=>?_)
   ·have hk : alK m h = false := by
     cases hk:alK m h
     ·rfl
     ·exfalso
      have hcv:(isMap m=true∧isHist h=true)∧m.app≤h.length:=by simpa [alK] using hk
      first
       | (rw [hcv.1.1] at hg16;exact Bool.noConfusion hg16)
       | (rw [hcv.1.2] at hg21;exact Bool.noConfusion hg21)
       | (simp [ints_len] at hc27;omega)
    have hM:alM m h=m:=by rw [alM,hk];rfl
    have hN:alN m h=0:=by rw [alN,hk];rfl
    refine G_seq ?_
    refine G_region' (L:=[0,1,2,3]) rfl ?_
    refine x_light rfl rfl rfl (L_load rfl (xb0 ty_72)) ?_
    refine EOps_go rfl rfl (EOp_store rfl rfl rfl (xb1 ty_72) ?_)
    refine xas ?_
    refine xas ?_
    refine EOps_nil ?_
    refine G_ret ?_
    rw [hk,hM,hN]
    exact⟨_,[2,3,4,5],rfl,rfl,rfl,rfl⟩
   ·have hcv : (isMap m = true ∧ isHist h = true) ∧ m.app ≤ h.length := ⟨⟨by simpa using hg16, by simpa using hg21⟩, by simp [ints_len] at hc27; omega⟩
    have hk:alK m h=true:=by simp [alK,hcv]
    have hmp:=map_parts hcv.1.1
    have hhp:=hist_parts hcv.1.2
    refine G_skip ?_
    refine G_seq ?_
    refine G_region' (L:=[0]) rfl ?_
    refine xas ?_
    refine EOps_nil ?_
    refine G_seq ?_
    refine G_block ?_
    refine g_forD_A59_1 (α:=Nat × Mp) [0,1,2,4,5,6,7,27] (fun (k,cur)=>[(8,.c (.sc (.int .i64 (((k:Int) - m.app)))))]) (fun (k,cur)=>[.box (mpC m),.box [.sc (.slice none 0 0),.sc (.slice none 0 0),.sc (.slice none 0 0),.sc (.slice none 0 0),.sc (.int .i64 0)],.row 3 1 (ints cur.c.vals),.row 3 1 (ints cur.c.rows),.row 157 2 (pairs cur.c.piv),.row 3 1 (ints cur.tail),.box (mpO 2 cur)]) (fun (k,cur)=>isMap cur=true∧cur.app=k∧k≤h.length∧m.app≤k∧alGo (h.drop k) cur=alGo (h.drop m.app.toNat) m) (fun (k,cur)=>h.length - k) ((m.app.toNat,m)) ?_ (rfl) ⟨.inr (int_eq (by omega)),trivial⟩ ?_
    ·exact⟨hcv.1.1,by omega,by omega,by omega,rfl⟩
    rintro⟨k,cur⟩ ⟨hcur,happ,hkl,hmk,hgo⟩
    dsimp only
    refine G_seq ?_
    refine G_seq ?_
    refine G_region' (L:=[0,1,2,3,4]) rfl ?_
    refine x_pure rfl rfl rfl (l_field rfl fo_72_2) ?_
    refine x_light rfl rfl rfl (L_load rfl (xb0 ty_3)) ?_
    refine xmv ?_
    refine x_pure rfl rfl rfl (l_len rfl sl_22) ?_
    refine x_pure rfl rfl rfl (L_bin rfl rfl rfl rfl) ?_
    refine EOps_nil ?_
    refine G_cond rfl (fun hc33=>?_) (fun hc33=>?_)
    ·have hk1 : k < h.length := by simp [ints_len] at hc33; omega
     obtain⟨v,hv⟩:=at_lt hk1
     have hv':h[cur.app.toNat]? = some v:=by rw [happ];simpa using hv
     have hstep:=alGo_at (m:=cur) hv
     have hbv:=hhp.2 v (List.mem_of_getElem? hv)
     refine G_skip ?_
     refine G_block ?_
     refine G_seq ?_
     refine g_tidy_A59_0 [0,1,2,4,5,6,7,8,9,27,33] ?_
     refine G_drawT mixed ?_
     refine t_light 0 rfl rfl rfl (L_load rfl (xb0 ty_72)) ?_
     refine t_old 1 rfl rfl rfl (L_move rfl) ?_
     refine t_old 2 rfl rfl rfl (l_field rfl fo_72_2) ?_
     refine t_light 3 rfl rfl rfl (L_load rfl (xb0 ty_3)) ?_
     refine t_old 4 rfl rfl rfl (L_index rfl rfl (by first|exact i_ro sl_22 ty_3|exact i_sl sl_22 ty_3)) ?_
     refine t_light 5 rfl rfl rfl (L_load rfl (xb0 ty_3)) ?_
     refine t_main 2 [(⟨none,10,9,0⟩,_)] [(6,false),(7,true),(8,true),(9,true)] [41,34,42,43] [(9,.any),(41,.any),(34,.any),(42,.any),(43,.any)] [6,7,8,9,10] ⟨.one rfl rfl rfl (by decide) (F_alloc rfl za_72),trivial⟩ ?_
     refine m_call rfl rfl rfl rfl rfl ca_115 (c_spec_CrackMap cur v (map_le hcur)) ?_
     rintro r S ⟨rfl,rfl⟩
     have hcm:cmM cur v=crkMp cur v:=by simp [cmM,cmK,hcur,hbv]
     have hap:(crkMp cur v).app=cur.app:=rfl
     have hst:alStep cur v=⟨(crkMp cur v).c,(crkMp cur v).tail,(crkMp cur v).app+1⟩:=rfl
     have hok:=alStep_ok hcur hbv (by omega)
     rw [hcm]
     generalize crkMp cur v=M at *
     refine m_pure rfl rfl rfl (L_move rfl) ?_
     refine m_pure rfl rfl rfl (L_extract rfl rfl) ?_
     refine m_pure rfl rfl rfl (L_extract rfl rfl) ?_
     refine m_done ?_
     refine fk_cons ?_
     rintro r S ⟨rfl,rfl⟩
     refine fk_nil ?_
     refine t_turn 11 rfl rfl (EOp_store rfl rfl rfl (xb1 ty_72) ?_)
     refine t_old 12 rfl rfl rfl (L_assign rfl) ?_
     refine T_done (by kernel_rfl) ?_
     refine G_seq ?_
     refine G_region' (L:=[0,1,2,3,4]) rfl ?_
     refine x_pure rfl rfl rfl (l_field rfl fo_72_2) ?_
     refine x_light rfl rfl rfl (L_load rfl (xb0 ty_3)) ?_
     refine x_pure rfl rfl rfl xb2 ?_
     refine x_pure rfl rfl rfl (l_field rfl fo_72_2) ?_
     refine EOps_go rfl rfl (EOp_store rfl rfl rfl (xb1 ty_3) ?_)
     refine EOps_nil ?_
     refine G_seq ?_
     refine G_region' (L:=[0,1]) rfl ?_
     refine x_light rfl rfl rfl (L_load rfl (xb0 ty_72)) ?_
     refine EOps_go rfl rfl (EOp_store rfl rfl rfl (xb1 ty_72) ?_)
     refine EOps_nil ?_
     refine G_region' (L:=[0,1,2]) rfl ?_
     refine xmv ?_
     refine x_pure rfl rfl rfl xb2 ?_
     refine xas ?_
     refine EOps_nil ?_
     refine⟨[0,1,7,8,9,10,6],rfl,(k+1,alStep cur v),?_,?_,(by rw [hst,hap];rfl),⟨.inr (int_eq (by dsimp only;omega)),trivial⟩,⟨.inr rfl,.inr rfl,.inr rfl,.inr rfl,.inr rfl,.inr rfl,.inr rfl,.inr rfl,trivial⟩⟩
     ·first|omega|(dsimp only;omega)|(simp;omega)
     ·exact⟨hok,by dsimp only;rw [hst];dsimp only;omega,by dsimp only;omega,by dsimp only;omega,by dsimp only;rw [← hstep];exact hgo⟩
    ·have hk2 : k = h.length := by simp [ints_len] at hc33; omega
     have hdr:h.drop k=[]:=List.drop_of_length_le (by omega)
     have hM:alM m h=cur:=by rw [alM,if_pos hk,← hgo,hdr];rfl
     have hN:alN m h=(k:Int) - m.app:=by rw [alN,if_pos hk,hk2]
     refine G_exit ?_
     refine G_seq ?_
     refine G_region' (L:=[0,1,2,3,4]) rfl ?_
     refine x_light rfl rfl rfl (L_load rfl (xb0 ty_72)) ?_
     refine xmv ?_
     refine EOps_go rfl rfl (EOp_store rfl rfl rfl (xb1 ty_72) ?_)
     refine xas ?_
     refine xas ?_
     refine EOps_nil ?_
     refine G_ret ?_
     rw [hk,hM,hN]
     exact⟨_,[2,3,4,5],rfl,rfl,rfl,rfl⟩

set_option maxRecDepth 20000 in
set_option maxHeartbeats 8000000 in
theorem c___impl_Map__align (m : Mp) (h : List Int) (hm : isMap m = true) (hh : isHist h = true) (ha : m.app ≤ h.length) : EFn Tryz.prog 107 [.c (.bp 0 0), .c (.ro (ints h))] [.box (mpO 1 m), .row 3 1 (ints m.c.vals), .row 3 1 (ints m.c.rows), .row 157 2 (pairs m.c.piv), .row 3 1 (ints m.tail)] (fun r S => r = .c (.sc (.int .i64 ((h.length : Int) - m.app))) ∧ S = [.box [.sl 5 0 (alGo (h.drop m.app.toNat) m).c.vals.length (alGo (h.drop m.app.toNat) m).c.vals.length, .sl 6 0 (alGo (h.drop m.app.toNat) m).c.rows.length (alGo (h.drop m.app.toNat) m).c.rows.length, .sl 7 0 (alGo (h.drop m.app.toNat) m).c.piv.length (alGo (h.drop m.app.toNat) m).c.piv.length, .sl 4 0 (alGo (h.drop m.app.toNat) m).tail.length (alGo (h.drop m.app.toNat) m).tail.length, .sc (.int .i64 (alGo (h.drop m.app.toNat) m).app)], .gone, .gone, .gone, .row 3 1 (ints (alGo (h.drop m.app.toNat) m).tail), .row 3 1 (ints (alGo (h.drop m.app.toNat) m).c.vals), .row 3 1 (ints (alGo (h.drop m.app.toNat) m).c.rows), .row 157 2 (pairs (alGo (h.drop m.app.toNat) m).c.piv)]) := by
 refine E_fn Tryz.func107 rfl (Nat.le_of_ble_eq_true rfl) ?_
 refine E_G (n:=5) rfl ?_
 have hmp:=map_parts hm
 have hhp:=hist_parts hh
 refine G_move 0 0 rfl rfl rfl (ints_len _) (Nat.le_refl _) (ints_all _ rfl) (ints_allSc _) ?_
 refine G_move 0 1 rfl rfl rfl (ints_len _) (Nat.le_refl _) (ints_all _ rfl) (ints_allSc _) ?_
 refine G_move 0 2 rfl rfl rfl (pairs_len _) (Nat.le_refl _) (pairs_all _ rfl) (pairs_isSc _) ?_
 refine G_seq ?_
 refine G_region' (L:=[0]) rfl ?_
 refine xas ?_
 refine EOps_nil ?_
 refine G_seq ?_
 refine G_region' (L:=[0]) rfl ?_
 refine xas ?_
 refine EOps_nil ?_
 refine G_seq ?_
 refine G_block ?_
 refine g_forD_A59_1 (α:=Nat × Mp) [0,1,4] (fun (k,cur)=>[(5,.c (.sc (.int .i64 (((k:Int) - m.app)))))]) (fun (k,cur)=>[.box [.sl 5 0 cur.c.vals.length cur.c.vals.length,.sl 6 0 cur.c.rows.length cur.c.rows.length,.sl 7 0 cur.c.piv.length cur.c.piv.length,.sl 4 0 cur.tail.length cur.tail.length,.sc (.int .i64 cur.app)],.gone,.gone,.gone,.row 3 1 (ints cur.tail),.row 3 1 (ints cur.c.vals),.row 3 1 (ints cur.c.rows),.row 157 2 (pairs cur.c.piv)]) (fun (k,cur)=>isMap cur=true∧cur.app=k∧k≤h.length∧m.app≤k∧alGo (h.drop k) cur=alGo (h.drop m.app.toNat) m) (fun (k,cur)=>h.length - k) ((m.app.toNat,m)) ?_ (rfl) ⟨.inr (int_eq (by omega)),trivial⟩ ?_
 ·exact⟨hm,by omega,by omega,by omega,rfl⟩
 rintro⟨k,cur⟩ ⟨hcur,happ,hkl,hmk,hgo⟩
 dsimp only
 refine G_seq ?_
 refine G_seq ?_
 refine G_region' (L:=[0,1,2,3,4,5,6]) rfl ?_
 refine xmv ?_
 refine x_pure rfl rfl rfl (L_nilCheck rfl rfl rfl) ?_
 refine x_pure rfl rfl rfl (l_field rfl fo_72_2) ?_
 refine x_light rfl rfl rfl (L_load rfl (xb0 ty_3)) ?_
 refine xmv ?_
 refine x_pure rfl rfl rfl (l_len rfl sl_22) ?_
 refine x_pure rfl rfl rfl (L_bin rfl rfl rfl rfl) ?_
 refine EOps_nil ?_
 refine G_cond rfl (fun hc12=>?_) (fun hc12=>?_)
 ·have hk1 : k < h.length := by simp [ints_len] at hc12; omega
  obtain⟨v,hv⟩:=at_lt hk1
  have hv':h[cur.app.toNat]? = some v:=by rw [happ];simpa using hv
  have hstep:=alGo_at (m:=cur) hv
  have hbv:=hhp.2 v (List.mem_of_getElem? hv)
  have hap:(crkMp cur v).app=cur.app:=rfl
  have hst:alStep cur v=⟨(crkMp cur v).c,(crkMp cur v).tail,(crkMp cur v).app+1⟩:=rfl
  have hok:=alStep_ok hcur hbv (by omega)
  refine G_skip ?_
  refine G_seq ?_
  refine G_block ?_
  refine G_seq ?_
  refine g_tidy_A59_0 [0,1,4,5,12] ?_
  refine G_region' (L:=[0,1,2,3,4,5,6,7,8]) rfl ?_
  refine xmv ?_
  refine xmv ?_
  refine xmv ?_
  refine x_pure rfl rfl rfl (L_nilCheck rfl rfl rfl) ?_
  refine x_pure rfl rfl rfl (l_field rfl fo_72_2) ?_
  refine x_light rfl rfl rfl (L_load rfl (xb0 ty_3)) ?_
  refine x_pure rfl rfl rfl (L_index rfl rfl (by first|exact i_ro sl_22 ty_3|exact i_sl sl_22 ty_3)) ?_
  refine x_light rfl rfl rfl (L_load rfl (xb0 ty_3)) ?_
  refine x_frame [0,5,6,7,4] rfl rfl rfl rfl rfl ca_144 rfl (c___impl_Map__crack cur v hcur hbv) ?_
  rintro r S ⟨r0,S0,⟨rfl,rfl⟩,rfl,rfl⟩
  generalize crkMp cur v=M at *
  refine EOps_nil ?_
  refine G_region' (L:=[0,1,2]) rfl ?_
  refine xmv ?_
  refine x_pure rfl rfl rfl xb2 ?_
  refine xas ?_
  refine EOps_nil ?_
  refine G_region' (L:=[0,1,2,3,4,5,6,7]) rfl ?_
  refine xmv ?_
  refine x_pure rfl rfl rfl (L_nilCheck rfl rfl rfl) ?_
  refine x_pure rfl rfl rfl (l_field rfl fo_72_2) ?_
  refine x_light rfl rfl rfl (L_load rfl (xb0 ty_3)) ?_
  refine x_pure rfl rfl rfl xb2 ?_
  refine x_pure rfl rfl rfl (L_nilCheck rfl rfl rfl) ?_
  refine x_pure rfl rfl rfl (l_field rfl fo_72_2) ?_
  refine EOps_go rfl rfl (EOp_store rfl rfl rfl (xb1 ty_3) ?_)
  refine EOps_nil ?_
  refine⟨[8,9,10],rfl,(k+1,alStep cur v),?_,?_,(by rw [hst];rfl),⟨.inr (int_eq (by dsimp only;omega)),trivial⟩,⟨.inr rfl,.inr rfl,.inr rfl,trivial⟩⟩
  ·first|omega|(dsimp only;omega)|(simp;omega)
  ·exact⟨hok,by dsimp only;rw [hst];dsimp only;omega,by dsimp only;omega,by dsimp only;omega,by dsimp only;rw [← hstep];exact hgo⟩
 ·have hk2 : k = h.length := by simp [ints_len] at hc12; omega
  have hdr:h.drop k=[]:=List.drop_of_length_le (by omega)
  have hM:alGo (h.drop m.app.toNat) m=cur:=by rw [← hgo,hdr];rfl
  refine G_exit ?_
  refine G_seq ?_
  refine G_region' (L:=[0,1]) rfl ?_
  refine xmv ?_
  refine xas ?_
  refine EOps_nil ?_
  refine G_ret ?_
  rw [hM]
  refine⟨_,[5,6,7],rfl,rfl,?_,rfl⟩
  rw [← hk2];rfl

end Go.Proofs.YthlhmpknngidmaaGreat.E
