/- Walks through functions, by program out of the session's annotations. -/
import Derived.Test.YtcepgfcolmdnoaaA154
import Derived.Test.YtcepgfcolmdnoaaA140
import Derived.Test.YtcepgfcolmdnoaaA137
import Derived.Test.YtcepgfcolmdnoaaA122
import Derived.Test.YtcepgfcolmdnoaaA30
import Derived.Test.YtcepgfcolmdnoaaA81
import Derived.Test.YtcepgfcolmdnoaaA24
import Derived.Test.YtcepgfcolmdnoaaA05
import Derived.Test.YtcepgfcolmdnoaaA08
import Derived.Test.YtcepgfcolmdnoaaF3
import Derived.Test.YtcepgfcolmdnoaaA49
namespace Go.Proofs.Ytcepgfcolmdnoaa.E
open Go Go.RowKit Go.Proofs
set_option linter.unusedVariables false
set_option linter.unusedSimpArgs false

theorem e_tidy_A155_0 {P:Program} {N:Nat} {s:Slots} {R:List Res} {Q:Exit→Slots→List Res→Prop} {c:Code} (keep:List Nat) {base:Slots} {R':List Res} (h:ECode P N c base R' Q) (hb:keepOf s keep=base:=by simp only [E.keepOf,E.get,E.ev,E.cv,E.fill',E.fill,E.slotsOf,Res.sh,AC.sh,AC.sh.shs,AV.sh,E.splice,List.map_cons,List.map_nil,List.cons_append,List.nil_append,List.append_nil,List.length_cons,List.length_nil,List.take_zero,List.drop_zero,List.take_succ_cons,List.drop_succ_cons,List.drop_nil,List.take_nil,List.set_cons_zero,List.set_cons_succ,Nat.zero_add,Nat.add_zero,Nat.reduceAdd,Nat.reduceSub,reduceIte,Nat.reduceEqDiff,E.back,E.backR,E.ix,Res.un,AC.un,AC.un.uns,AV.un,E.un,Option.map_some,Option.map_none,Option.getD_some,List.getElem?_cons_zero,List.getElem?_cons_succ,List.getElem?_nil,crkR,crkO,pndO,pndR];rfl) (hR:R=R':=by (try simp only [E.keepOf,E.get,E.ev,E.cv,E.fill',E.fill,E.slotsOf,Res.sh,AC.sh,AC.sh.shs,AV.sh,E.splice,List.map_cons,List.map_nil,List.cons_append,List.nil_append,List.append_nil,List.length_cons,List.length_nil,List.take_zero,List.drop_zero,List.take_succ_cons,List.drop_succ_cons,List.drop_nil,List.take_nil,List.set_cons_zero,List.set_cons_succ,Nat.zero_add,Nat.add_zero,Nat.reduceAdd,Nat.reduceSub,reduceIte,Nat.reduceEqDiff,E.back,E.backR,E.ix,Res.un,AC.un,AC.un.uns,AV.un,E.un,Option.map_some,Option.map_none,Option.getD_some,List.getElem?_cons_zero,List.getElem?_cons_succ,List.getElem?_nil,crkR,crkO,pndO,pndR]);rfl):ECode P N c s R Q:=E_tidy keep hb hR h

set_option maxRecDepth 20000 in
set_option maxHeartbeats 2000000 in
theorem c_laws_has (xs : List Int) (y : Int) (hb : xs.length ≤ 9223372036854775807) : EFn Try.prog 34 [.c (.ro (ints xs)), .c (.sc (.int .i64 y))] [] (fun r S => r = .c (.sc (.bool (decide (y ∈ xs)))) ∧ S = []) := by
 refine E_fn Try.func34 rfl (Nat.le_of_ble_eq_true rfl) ?_
 refine E_seq ?_
 refine E_region' (L:=[0]) rfl ?_
 refine xas ?_
 refine EOps_nil ?_
 refine E_seq ?_
 refine E_seq ?_
 refine E_region' (L:=[0]) rfl ?_
 refine xas ?_
 refine EOps_nil ?_
 refine E_block ?_
 refine e_for (α:=Nat) [0,1] (fun k=>[(5,.c (.sc (.int .i64 (k)))),(4,.any)]) (fun _=>_) (fun k=>k≤xs.length∧y ∉ xs.take k) (fun k=>xs.length - k) (0) ?_ (rfl) ⟨.inr rfl,.inl rfl,trivial⟩ ?_
 ·exact⟨Nat.zero_le _,by simp⟩
 rintro k ⟨hk,hno⟩
 refine E_seq ?_
 refine E_seq ?_
 refine E_region' (L:=[0,1,2,3]) rfl ?_
 refine xmv ?_
 refine xmv ?_
 refine x_pure rfl rfl rfl (l_len rfl sl_24) ?_
 refine x_pure rfl rfl rfl (L_bin rfl rfl rfl rfl) ?_
 refine EOps_nil ?_
 refine E_cond rfl (fun hc9=>?_) (fun hc9=>?_)
 ·have hc9' : k < (xs).length := by simpa [ints_len, bools_len, pairs_len, quads_len, quints_len] using hc9
  obtain⟨x,hx⟩:∃ x,(xs)[k]? = some x:=⟨_,List.getElem?_eq_getElem hc9'⟩
  refine E_skip ?_
  refine E_seq ?_
  refine E_block ?_
  refine E_seq ?_
  refine E_region' (L:=[0,1,2,3,4,5]) rfl ?_
  refine xmv ?_
  refine xmv ?_
  refine x_pure rfl rfl rfl (L_index rfl rfl (by first|exact i_ro sl_24 ty_3|exact i_sl sl_24 ty_3)) ?_
  refine x_light rfl rfl rfl (L_load rfl (xb0 ty_3)) ?_
  refine xmv ?_
  refine x_pure rfl rfl rfl (L_bin rfl rfl rfl rfl) ?_
  refine EOps_nil ?_
  refine E_cond rfl (fun hc17=>?_) (fun hc17=>?_)
  ·have hxy : x = y := by simpa using hc17
   refine E_seq ?_
   refine E_region' (L:=[0]) rfl ?_
   refine xas ?_
   refine EOps_nil ?_
   refine E_ret ?_
   refine⟨_,[],rfl,rfl,bool_eq ?_,rfl⟩
   have hm:y ∈ xs:=hxy ▸ List.mem_of_getElem? hx
   simp [hm]
  ·have hxy : ¬ x = y := by simpa using hc17
   refine E_skip ?_
   refine E_region' (L:=[0,1,2]) rfl ?_
   refine xmv ?_
   refine x_pure rfl rfl rfl xb3 ?_
   refine xas ?_
   refine EOps_nil ?_
   refine⟨k+1,?_,?_,rfl,⟨.inr rfl,.inl rfl,trivial⟩,⟨.inr rfl,.inr rfl,trivial⟩⟩
   ·first|omega|(dsimp only;omega)|(simp;omega)
   ·refine ⟨by omega, ?_⟩
    rw [take_snoc hx,List.mem_append,List.mem_singleton]
    rintro (h|h)
    ·exact hno h
    ·exact hxy h.symm
 ·have hk' : xs.length ≤ k := by simpa [ints_len] using hc9
  rw [List.take_of_length_le hk'] at hno
  refine E_exit ?_
  refine E_seq ?_
  refine E_region' (L:=[0]) rfl ?_
  refine xas ?_
  refine EOps_nil ?_
  refine E_ret ?_
  refine⟨_,[],rfl,rfl,bool_eq ?_,rfl⟩
  simp [hno]

set_option maxRecDepth 20000 in
set_option maxHeartbeats 8000000 in
theorem c_laws_FnUpdates (l : List Int) (hb0 : ∀ x ∈ l, 0 ≤ x ∧ x ≤ 255) : EFn Try.prog 5 [.c (.ro (bytes l))] [] (fun r S => r = .c (.sc (.bool true)) ∧ S = []) := by
 refine E_fn Try.func5 rfl (Nat.le_of_ble_eq_true rfl) ?_
 refine E_seq ?_
 refine E_region' (L:=[0]) rfl ?_
 refine xas ?_
 refine EOps_nil ?_
 refine E_seq ?_
 refine E_seq ?_
 refine e_tidy_A155_0 [0,2] ?_
 refine E_region' (L:=[0,1]) rfl ?_
 refine xmv ?_
 refine x_call rfl rfl rfl rfl rfl ca_10 (c_laws_big l) ?_
 rintro r S ⟨rfl,rfl⟩
 refine EOps_nil ?_
 refine E_cond rfl (fun hc21=>?_) (fun hc21=>?_)
 ·refine E_seq ?_
  refine E_region' (L:=[0]) rfl ?_
  refine xas ?_
  refine EOps_nil ?_
  refine E_ret ?_
  exact⟨_,[],rfl,rfl,rfl,rfl⟩
 ·have hb : byL l := ⟨hb0, by simp at hc21; omega⟩
  refine E_skip ?_
  refine E_seq ?_
  refine e_tidy_A155_0 [0,2,21] ?_
  refine E_region' (L:=[0,1,2,3,4,5,6,7,8,9,10,11]) rfl ?_
  refine xmv ?_
  refine x_call rfl rfl rfl rfl rfl ca_30 (c_spec_DrawAddInsert l hb) ?_ (hq:=by rintro r S ⟨_,_,_,⟨rfl,rfl⟩,_,_,_,_,_⟩;exact⟨rfl,rfl⟩)
  rintro r S ⟨c,p,x,⟨rfl,rfl⟩,hcv,hcr,hcp,hpi,hpd⟩
  refine xmv ?_
  refine x_pure rfl rfl rfl (L_extract rfl rfl) ?_
  refine x_pure rfl rfl rfl (L_extract rfl rfl) ?_
  refine x_pure rfl rfl rfl (L_extract rfl rfl) ?_
  refine x_alloc rfl rfl rfl rfl za_27 ?_
  refine x_alloc rfl rfl rfl rfl za_58 ?_
  refine x_alloc rfl rfl rfl rfl za_60 ?_
  refine EOps_go rfl rfl (EOp_store rfl rfl rfl (xb1 ty_27) ?_)
  refine EOps_go rfl rfl (EOp_store rfl rfl rfl (xb1 ty_58) ?_)
  refine EOps_go rfl rfl (EOp_store rfl rfl rfl (xb1 ty_60) ?_)
  refine EOps_nil ?_
  refine E_seq ?_
  refine e_tidy_A155_0 [0,2,3,4,5,21] ?_
  refine E_region' (L:=[0,1,2,3,4,5,6,7,8,9]) rfl ?_
  refine x_light rfl rfl rfl (L_load rfl (xb0 ty_27)) ?_
  refine x_light rfl rfl rfl (L_load rfl (xb0 ty_58)) ?_
  refine x_light rfl rfl rfl (L_load rfl (xb0 ty_60)) ?_
  refine x_call rfl rfl rfl rfl rfl ca_31 (c_impl_AddInsert c p x (by omega)) ?_
  rintro r S ⟨rfl,rfl⟩
  refine xmv ?_
  refine x_pure rfl rfl rfl (L_extract rfl rfl) ?_
  refine x_pure rfl rfl rfl (L_extract rfl rfl) ?_
  refine x_alloc rfl rfl rfl rfl za_58 ?_
  refine EOps_go rfl rfl (EOp_store rfl rfl rfl (xb1 ty_58) ?_)
  refine xas ?_
  refine EOps_nil ?_
  refine E_seq ?_
  refine e_tidy_A155_0 [0,2,3,4,5,6,7,21] ?_
  refine E_region' (L:=[0,1,2,3,4,5,6,7,8,9]) rfl ?_
  refine x_light rfl rfl rfl (L_load rfl (xb0 ty_27)) ?_
  refine x_light rfl rfl rfl (L_load rfl (xb0 ty_58)) ?_
  refine x_light rfl rfl rfl (L_load rfl (xb0 ty_60)) ?_
  refine x_call rfl rfl rfl rfl rfl ca_32 (c_spec_AddInsert c p x (by omega)) ?_
  rintro r S ⟨rfl,rfl⟩
  have hsm:=addIr_small c p x
  refine xmv ?_
  refine x_pure rfl rfl rfl (L_extract rfl rfl) ?_
  refine x_pure rfl rfl rfl (L_extract rfl rfl) ?_
  refine x_alloc rfl rfl rfl rfl za_58 ?_
  refine EOps_go rfl rfl (EOp_store rfl rfl rfl (xb1 ty_58) ?_)
  refine xas ?_
  refine EOps_nil ?_
  refine E_seq ?_
  refine E_seq ?_
  refine E_region' (L:=[0,1,2]) rfl ?_
  refine xmv ?_
  refine xmv ?_
  refine x_pure rfl rfl rfl (L_binB rfl bo_4 rfl rfl rfl) ?_
  refine EOps_nil ?_
  refine E_cond rfl (fun hc44=>?_) (fun hc44=>?_)
  ·simp at hc44
  ·refine E_skip ?_
   refine E_seq ?_
   refine E_region' (L:=[0,1,2]) rfl ?_
   refine x_pure rfl rfl rfl (L_build rfl bd_41 rfl rfl) ?_
   refine x_alloc rfl rfl rfl rfl za_41 ?_
   refine EOps_go rfl rfl (EOp_store rfl rfl rfl (xb1 ty_41) ?_)
   refine EOps_nil ?_
   refine E_seq ?_
   refine E_seq ?_
   refine E_region' (L:=[0]) rfl ?_
   refine xmv ?_
   refine EOps_nil ?_
   refine E_cond rfl (fun hc46=>?_) (fun hc46=>?_)
   ·have hk : addIok c p x = true := by simpa using hc46
    have he:addIr c p x=addI p x:=by rw [addIr,if_pos hk]
    obtain⟨k1,k2⟩:=add_del hk
    have k3:=add_live hk
    rw [he] at hsm ⊢
    refine E_seq ?_
    refine e_tidy_A155_0 [0,2,3,4,5,6,7,9,10,21,44,46] ?_
    refine E_region' (L:=[0,1,2,3,4,5,6,7,8,9,10]) rfl ?_
    refine x_light rfl rfl rfl (L_load rfl (xb0 ty_27)) ?_
    refine x_light rfl rfl rfl (L_load rfl (xb0 ty_58)) ?_
    refine x_pure rfl rfl rfl (l_field rfl fo_60_1) ?_
    refine x_light rfl rfl rfl (L_load rfl (xb0 ty_3)) ?_
    refine x_call rfl rfl rfl rfl rfl ca_33 (c_impl_AddDelete c (addI p x) x.2 (by omega)) ?_
    rintro r S ⟨rfl,rfl⟩
    rw [k1,k2]
    refine xmv ?_
    refine x_pure rfl rfl rfl (L_extract rfl rfl) ?_
    refine x_pure rfl rfl rfl (L_extract rfl rfl) ?_
    refine x_alloc rfl rfl rfl rfl za_58 ?_
    refine EOps_go rfl rfl (EOp_store rfl rfl rfl (xb1 ty_58) ?_)
    refine xas ?_
    refine EOps_nil ?_
    refine E_seq ?_
    refine e_tidy_A155_0 [0,2,3,4,5,6,7,9,10,11,12,21,44,46] ?_
    refine E_drawT mixed ?_
    refine t_old 0 rfl rfl rfl (L_move rfl) ?_
    refine t_old 1 rfl rfl rfl (L_not rfl rfl) ?_
    refine t_old 2 rfl rfl rfl (L_move rfl) ?_
    refine T_split 57 (b:=_) rfl rfl (fun hg57=>?_) (fun hg57=>?_)
    ·simp at hg57
    ·refine t_light 3 rfl rfl rfl (L_load rfl (xb2 ty_27)) ?_
     refine t_light 4 rfl rfl rfl (L_load rfl (xb0 ty_58)) ?_
     refine t_light 5 rfl rfl rfl (L_load rfl (xb0 ty_41)) ?_
     refine t_old 7 rfl rfl rfl (l_field rfl fo_60_1) ?_
     refine t_light 8 rfl rfl rfl (L_load rfl (xb0 ty_3)) ?_
     refine t_call 6 rfl rfl rfl rfl rfl ca_35 (c_impl_LiveRows c (addI p x) allR (by omega)) ?_
     rintro r S ⟨rfl,rfl⟩
     refine t_call 9 rfl rfl rfl rfl rfl ca_34 (c_laws_has (liveL c (addI p x) allR) x.2 (by have:=live_le (c:=c) (p:=addI p x) (r:=allR);omega)) ?_
     rintro r S ⟨rfl,rfl⟩
     refine t_old 10 rfl rfl rfl (L_not rfl rfl) ?_
     refine t_old 11 rfl rfl rfl (L_pick rfl rfl) ?_
     refine t_old 12 rfl rfl rfl (L_move rfl) ?_
     refine T_split 67 (b:=_) rfl rfl (fun hg67=>?_) (fun hg67=>?_)
     ·exfalso;simp [k3] at hg67
     ·refine t_light 13 rfl rfl rfl (L_load rfl (xb2 ty_27)) ?_
      refine t_light 14 rfl rfl rfl (L_load rfl (xb0 ty_58)) ?_
      refine t_light 15 rfl rfl rfl (L_load rfl (xb0 ty_41)) ?_
      refine t_light 17 rfl rfl rfl (L_load rfl (xb0 ty_27)) ?_
      refine t_light 18 rfl rfl rfl (L_load rfl (xb0 ty_58)) ?_
      refine t_light 19 rfl rfl rfl (L_load rfl (xb0 ty_41)) ?_
      refine t_fresh 12 [(⟨none,16,71,0⟩,_),(⟨none,20,75,0⟩,_)] [(71,.any),(75,.any)] [16,20] ⟨.one rfl rfl rfl (by decide) (f_call rfl rfl ca_35 (c_impl_LiveRows c p allR (by omega))),.one rfl rfl rfl (by decide) (f_call rfl rfl ca_36 (c_spec_LiveRows c p allR (by omega))),trivial⟩ ?_
      refine fk_cons ?_
      rintro r S ⟨rfl,rfl⟩
      refine fk_cons ?_
      rintro r S ⟨rfl,rfl⟩
      refine fk_nil ?_
      refine t_call 21 rfl rfl rfl rfl rfl ca_25 (c_laws_sameInts (liveL c p allR) (liveL c p allR)) ?_
      rintro r S ⟨rfl,rfl⟩
      refine t_old 22 rfl rfl rfl (L_not rfl rfl) ?_
      refine t_old 23 rfl rfl rfl (L_pick rfl rfl) ?_
      refine t_old 24 rfl rfl rfl (L_move rfl) ?_
      refine T_split 79 (b:=_) rfl rfl (fun hg79=>?_) (fun hg79=>?_)
      ·exfalso;simp at hg79
      ·refine t_old 25 rfl rfl rfl (l_field rfl fo_58_0) ?_
       refine t_light 26 rfl rfl rfl (L_load rfl (xb0 ty_56)) ?_
       refine t_old 27 rfl rfl rfl (l_len rfl sl_56) ?_
       refine t_old 28 rfl rfl rfl (l_field rfl fo_58_0) ?_
       refine t_light 29 rfl rfl rfl (L_load rfl (xb0 ty_56)) ?_
       refine t_old 30 rfl rfl rfl (l_len rfl sl_56) ?_
       refine t_old 31 rfl rfl rfl (L_bin rfl rfl rfl rfl) ?_
       refine t_old 32 rfl rfl rfl (L_pick rfl rfl) ?_
       refine T_done (by kernel_rfl) ?_
       refine E_cond rfl (fun hc87=>?_) (fun hc87=>?_)
       ·exfalso;simp at hc87
       ·refine E_skip ?_
        refine E_seq ?_
        refine e_tidy_A155_0 [0,2,3,4,5,6,7,9,10,11,12,21,44,46,87] ?_
        refine E_region' (L:=[0,1,2,3,4,5,6,7,8,9,10]) rfl ?_
        refine xmv ?_
        refine x_call rfl rfl rfl rfl rfl ca_37 (c_spec_DrawAddDelete l hb) ?_ (hq:=by rintro r S ⟨_,_,_,⟨rfl,rfl⟩,_,_,_,_,_⟩;exact⟨rfl,rfl⟩)
        rintro r S ⟨d,w,y,⟨rfl,rfl⟩,hdv,hdr,hdp,hwi,hwd⟩
        refine xmv ?_
        refine x_pure rfl rfl rfl (L_extract rfl rfl) ?_
        refine x_pure rfl rfl rfl (L_extract rfl rfl) ?_
        refine x_pure rfl rfl rfl (L_extract rfl rfl) ?_
        refine x_alloc rfl rfl rfl rfl za_27 ?_
        refine x_alloc rfl rfl rfl rfl za_58 ?_
        refine EOps_go rfl rfl (EOp_store rfl rfl rfl (xb1 ty_27) ?_)
        refine EOps_go rfl rfl (EOp_store rfl rfl rfl (xb1 ty_58) ?_)
        refine xas ?_
        refine EOps_nil ?_
        refine E_seq ?_
        refine e_tidy_A155_0 [0,2,3,4,5,6,7,9,10,11,12,13,14,15,21,44,46,87] ?_
        refine E_region' (L:=[0,1,2,3,4,5,6,7,8,9]) rfl ?_
        refine x_light rfl rfl rfl (L_load rfl (xb0 ty_27)) ?_
        refine x_light rfl rfl rfl (L_load rfl (xb0 ty_58)) ?_
        refine xmv ?_
        refine x_call rfl rfl rfl rfl rfl ca_33 (c_impl_AddDelete d w y (by omega)) ?_
        rintro r S ⟨rfl,rfl⟩
        refine xmv ?_
        refine x_pure rfl rfl rfl (L_extract rfl rfl) ?_
        refine x_pure rfl rfl rfl (L_extract rfl rfl) ?_
        refine x_alloc rfl rfl rfl rfl za_58 ?_
        refine EOps_go rfl rfl (EOp_store rfl rfl rfl (xb1 ty_58) ?_)
        refine xas ?_
        refine EOps_nil ?_
        refine E_seq ?_
        refine e_tidy_A155_0 [0,2,3,4,5,6,7,9,10,11,12,13,14,15,16,17,21,44,46,87] ?_
        refine E_region' (L:=[0,1,2,3,4,5,6,7,8,9]) rfl ?_
        refine x_light rfl rfl rfl (L_load rfl (xb0 ty_27)) ?_
        refine x_light rfl rfl rfl (L_load rfl (xb0 ty_58)) ?_
        refine xmv ?_
        refine x_call rfl rfl rfl rfl rfl ca_38 (c_spec_AddDelete d w y (by omega)) ?_
        rintro r S ⟨rfl,rfl⟩
        have hsd:=delR_small d w y
        refine xmv ?_
        refine x_pure rfl rfl rfl (L_extract rfl rfl) ?_
        refine x_pure rfl rfl rfl (L_extract rfl rfl) ?_
        refine x_alloc rfl rfl rfl rfl za_58 ?_
        refine EOps_go rfl rfl (EOp_store rfl rfl rfl (xb1 ty_58) ?_)
        refine xas ?_
        refine EOps_nil ?_
        refine E_seq ?_
        refine E_seq ?_
        refine E_region' (L:=[0,1,2]) rfl ?_
        refine xmv ?_
        refine xmv ?_
        refine x_pure rfl rfl rfl (L_binB rfl bo_4 rfl rfl rfl) ?_
        refine EOps_nil ?_
        refine E_cond rfl (fun hc110=>?_) (fun hc110=>?_)
        ·simp at hc110
        ·refine E_skip ?_
         refine E_seq ?_
         refine e_tidy_A155_0 [0,2,3,4,5,6,7,9,10,11,12,13,14,15,16,17,19,21,44,46,87,110] ?_
         refine E_region' (L:=[0,1,2,3,4,5,6,7,8,9,10,11,12,13,14,15,16,17,18,19,20,21,22,23,24]) rfl ?_
         refine xmv ?_
         refine x_pure rfl rfl rfl (L_not rfl rfl) ?_
         refine xmv ?_
         refine EOps_split 113 (b:=_) rfl (fun hg113=>?_) (fun hg113=>?_)
         ·refine x_skip rfl rfl rfl ?_
          refine x_skip rfl rfl rfl ?_
          refine x_skip rfl rfl rfl ?_
          refine x_skip rfl rfl rfl ?_
          refine x_skip rfl rfl rfl ?_
          refine x_skip rfl rfl rfl ?_
          refine x_skip rfl rfl rfl ?_
          refine x_skip rfl rfl rfl ?_
          refine x_skip rfl rfl rfl ?_
          refine x_skip rfl rfl rfl ?_
          refine x_skip rfl rfl rfl ?_
          refine x_skip rfl rfl rfl ?_
          refine x_skip rfl rfl rfl ?_
          refine x_skip rfl rfl rfl ?_
          refine x_skip rfl rfl rfl ?_
          refine x_skip rfl rfl rfl ?_
          refine x_skip rfl rfl rfl ?_
          refine x_skip rfl rfl rfl ?_
          refine x_skip rfl rfl rfl ?_
          refine x_skip rfl rfl rfl ?_
          refine x_pure rfl rfl rfl (L_pick rfl rfl) ?_
          refine xas ?_
          refine EOps_nil ?_
          refine E_ret ?_
          refine⟨_,[],rfl,rfl,bool_eq ?_,rfl⟩
          first
           | (simp;done)
           | (simp_all;done)
           | simp [d3]
         ·have hk : delOk d w y = true := by simpa using hg113
          obtain⟨d1,d2,d3⟩:=del_live hk
          refine x_light rfl rfl rfl (L_load rfl (xb0 ty_27)) ?_
          refine x_light rfl rfl rfl (L_load rfl (xb0 ty_58)) ?_
          refine x_light rfl rfl rfl (L_load rfl (xb0 ty_41)) ?_
          refine x_call rfl rfl rfl rfl rfl ca_35 (c_impl_LiveRows d (delR d w y) allR (by omega)) ?_
          rintro r S ⟨rfl,rfl⟩
          refine xmv ?_
          refine x_call rfl rfl rfl rfl rfl ca_34 (c_laws_has (liveL d (delR d w y) allR) y (by have:=live_le (c:=d) (p:=delR d w y) (r:=allR);omega)) ?_
          rintro r S ⟨rfl,rfl⟩
          refine x_pure rfl rfl rfl (L_not rfl rfl) ?_
          refine xmv ?_
          refine EOps_split 121 (b:=_) rfl (fun hg121=>?_) (fun hg121=>?_)
          ·refine x_light rfl rfl rfl (L_load rfl (xb2 ty_27)) ?_
           refine x_light rfl rfl rfl (L_load rfl (xb0 ty_58)) ?_
           refine x_light rfl rfl rfl (L_load rfl (xb0 ty_41)) ?_
           refine x_call rfl rfl rfl rfl rfl ca_36 (c_spec_LiveRows d w allR (by omega)) ?_
           rintro r S ⟨rfl,rfl⟩
           refine xmv ?_
           refine x_call rfl rfl rfl rfl rfl ca_34 (c_laws_has (liveL d w allR) y (by have:=live_le (c:=d) (p:=w) (r:=allR);omega)) ?_
           rintro r S ⟨rfl,rfl⟩
           refine x_pure rfl rfl rfl (L_pick rfl rfl) ?_
           refine xmv ?_
           refine EOps_split 129 (b:=_) rfl (fun hg129=>?_) (fun hg129=>?_)
           ·refine x_light rfl rfl rfl (L_load rfl (xb2 ty_27)) ?_
            refine x_light rfl rfl rfl (L_load rfl (xb0 ty_58)) ?_
            refine x_call rfl rfl rfl rfl rfl ca_39 (c_impl_IsPending d (delR d w y) (by omega)) ?_
            rintro r S ⟨rfl,rfl⟩
            refine x_pure rfl rfl rfl (L_pick rfl rfl) ?_
            refine x_pure rfl rfl rfl (L_pick rfl rfl) ?_
            refine xas ?_
            refine EOps_nil ?_
            refine E_ret ?_
            refine⟨_,[],rfl,rfl,bool_eq ?_,rfl⟩
            first
             | (simp;done)
             | (simp_all;done)
             | simp [d3]
           ·exfalso;simp [d1] at hg129
          ·exfalso;simp [d2] at hg121
   ·refine E_skip ?_
    refine E_seq ?_
    refine e_tidy_A155_0 [0,2,3,4,5,6,7,9,10,21,44,46] ?_
    refine E_region' (L:=[0,1,2,3,4,5,6,7,8,9,10]) rfl ?_
    refine xmv ?_
    refine x_call rfl rfl rfl rfl rfl ca_37 (c_spec_DrawAddDelete l hb) ?_ (hq:=by rintro r S ⟨_,_,_,⟨rfl,rfl⟩,_,_,_,_,_⟩;exact⟨rfl,rfl⟩)
    rintro r S ⟨d,w,y,⟨rfl,rfl⟩,hdv,hdr,hdp,hwi,hwd⟩
    refine xmv ?_
    refine x_pure rfl rfl rfl (L_extract rfl rfl) ?_
    refine x_pure rfl rfl rfl (L_extract rfl rfl) ?_
    refine x_pure rfl rfl rfl (L_extract rfl rfl) ?_
    refine x_alloc rfl rfl rfl rfl za_27 ?_
    refine x_alloc rfl rfl rfl rfl za_58 ?_
    refine EOps_go rfl rfl (EOp_store rfl rfl rfl (xb1 ty_27) ?_)
    refine EOps_go rfl rfl (EOp_store rfl rfl rfl (xb1 ty_58) ?_)
    refine xas ?_
    refine EOps_nil ?_
    refine E_seq ?_
    refine e_tidy_A155_0 [0,2,3,4,5,6,7,9,10,13,14,15,21,44,46] ?_
    refine E_region' (L:=[0,1,2,3,4,5,6,7,8,9]) rfl ?_
    refine x_light rfl rfl rfl (L_load rfl (xb0 ty_27)) ?_
    refine x_light rfl rfl rfl (L_load rfl (xb0 ty_58)) ?_
    refine xmv ?_
    refine x_call rfl rfl rfl rfl rfl ca_33 (c_impl_AddDelete d w y (by omega)) ?_
    rintro r S ⟨rfl,rfl⟩
    refine xmv ?_
    refine x_pure rfl rfl rfl (L_extract rfl rfl) ?_
    refine x_pure rfl rfl rfl (L_extract rfl rfl) ?_
    refine x_alloc rfl rfl rfl rfl za_58 ?_
    refine EOps_go rfl rfl (EOp_store rfl rfl rfl (xb1 ty_58) ?_)
    refine xas ?_
    refine EOps_nil ?_
    refine E_seq ?_
    refine e_tidy_A155_0 [0,2,3,4,5,6,7,9,10,13,14,15,16,17,21,44,46] ?_
    refine E_region' (L:=[0,1,2,3,4,5,6,7,8,9]) rfl ?_
    refine x_light rfl rfl rfl (L_load rfl (xb0 ty_27)) ?_
    refine x_light rfl rfl rfl (L_load rfl (xb0 ty_58)) ?_
    refine xmv ?_
    refine x_call rfl rfl rfl rfl rfl ca_38 (c_spec_AddDelete d w y (by omega)) ?_
    rintro r S ⟨rfl,rfl⟩
    have hsd:=delR_small d w y
    refine xmv ?_
    refine x_pure rfl rfl rfl (L_extract rfl rfl) ?_
    refine x_pure rfl rfl rfl (L_extract rfl rfl) ?_
    refine x_alloc rfl rfl rfl rfl za_58 ?_
    refine EOps_go rfl rfl (EOp_store rfl rfl rfl (xb1 ty_58) ?_)
    refine xas ?_
    refine EOps_nil ?_
    refine E_seq ?_
    refine E_seq ?_
    refine E_region' (L:=[0,1,2]) rfl ?_
    refine xmv ?_
    refine xmv ?_
    refine x_pure rfl rfl rfl (L_binB rfl bo_4 rfl rfl rfl) ?_
    refine EOps_nil ?_
    refine E_cond rfl (fun hc110=>?_) (fun hc110=>?_)
    ·simp at hc110
    ·refine E_skip ?_
     refine E_seq ?_
     refine e_tidy_A155_0 [0,2,3,4,5,6,7,9,10,13,14,15,16,17,19,21,44,46,110] ?_
     refine E_region' (L:=[0,1,2,3,4,5,6,7,8,9,10,11,12,13,14,15,16,17,18,19,20,21,22,23,24]) rfl ?_
     refine xmv ?_
     refine x_pure rfl rfl rfl (L_not rfl rfl) ?_
     refine xmv ?_
     refine EOps_split 113 (b:=_) rfl (fun hg113=>?_) (fun hg113=>?_)
     ·refine x_skip rfl rfl rfl ?_
      refine x_skip rfl rfl rfl ?_
      refine x_skip rfl rfl rfl ?_
      refine x_skip rfl rfl rfl ?_
      refine x_skip rfl rfl rfl ?_
      refine x_skip rfl rfl rfl ?_
      refine x_skip rfl rfl rfl ?_
      refine x_skip rfl rfl rfl ?_
      refine x_skip rfl rfl rfl ?_
      refine x_skip rfl rfl rfl ?_
      refine x_skip rfl rfl rfl ?_
      refine x_skip rfl rfl rfl ?_
      refine x_skip rfl rfl rfl ?_
      refine x_skip rfl rfl rfl ?_
      refine x_skip rfl rfl rfl ?_
      refine x_skip rfl rfl rfl ?_
      refine x_skip rfl rfl rfl ?_
      refine x_skip rfl rfl rfl ?_
      refine x_skip rfl rfl rfl ?_
      refine x_skip rfl rfl rfl ?_
      refine x_pure rfl rfl rfl (L_pick rfl rfl) ?_
      refine xas ?_
      refine EOps_nil ?_
      refine E_ret ?_
      refine⟨_,[],rfl,rfl,bool_eq ?_,rfl⟩
      first
       | (simp;done)
       | (simp_all;done)
       | simp [d3]
     ·have hk : delOk d w y = true := by simpa using hg113
      obtain⟨d1,d2,d3⟩:=del_live hk
      refine x_light rfl rfl rfl (L_load rfl (xb0 ty_27)) ?_
      refine x_light rfl rfl rfl (L_load rfl (xb0 ty_58)) ?_
      refine x_light rfl rfl rfl (L_load rfl (xb0 ty_41)) ?_
      refine x_call rfl rfl rfl rfl rfl ca_35 (c_impl_LiveRows d (delR d w y) allR (by omega)) ?_
      rintro r S ⟨rfl,rfl⟩
      refine xmv ?_
      refine x_call rfl rfl rfl rfl rfl ca_34 (c_laws_has (liveL d (delR d w y) allR) y (by have:=live_le (c:=d) (p:=delR d w y) (r:=allR);omega)) ?_
      rintro r S ⟨rfl,rfl⟩
      refine x_pure rfl rfl rfl (L_not rfl rfl) ?_
      refine xmv ?_
      refine EOps_split 121 (b:=_) rfl (fun hg121=>?_) (fun hg121=>?_)
      ·refine x_light rfl rfl rfl (L_load rfl (xb2 ty_27)) ?_
       refine x_light rfl rfl rfl (L_load rfl (xb0 ty_58)) ?_
       refine x_light rfl rfl rfl (L_load rfl (xb0 ty_41)) ?_
       refine x_call rfl rfl rfl rfl rfl ca_36 (c_spec_LiveRows d w allR (by omega)) ?_
       rintro r S ⟨rfl,rfl⟩
       refine xmv ?_
       refine x_call rfl rfl rfl rfl rfl ca_34 (c_laws_has (liveL d w allR) y (by have:=live_le (c:=d) (p:=w) (r:=allR);omega)) ?_
       rintro r S ⟨rfl,rfl⟩
       refine x_pure rfl rfl rfl (L_pick rfl rfl) ?_
       refine xmv ?_
       refine EOps_split 129 (b:=_) rfl (fun hg129=>?_) (fun hg129=>?_)
       ·refine x_light rfl rfl rfl (L_load rfl (xb2 ty_27)) ?_
        refine x_light rfl rfl rfl (L_load rfl (xb0 ty_58)) ?_
        refine x_call rfl rfl rfl rfl rfl ca_39 (c_impl_IsPending d (delR d w y) (by omega)) ?_
        rintro r S ⟨rfl,rfl⟩
        refine x_pure rfl rfl rfl (L_pick rfl rfl) ?_
        refine x_pure rfl rfl rfl (L_pick rfl rfl) ?_
        refine xas ?_
        refine EOps_nil ?_
        refine E_ret ?_
        refine⟨_,[],rfl,rfl,bool_eq ?_,rfl⟩
        first
         | (simp;done)
         | (simp_all;done)
         | simp [d3]
       ·exfalso;simp [d1] at hg129
      ·exfalso;simp [d2] at hg121

end Go.Proofs.Ytcepgfcolmdnoaa.E
