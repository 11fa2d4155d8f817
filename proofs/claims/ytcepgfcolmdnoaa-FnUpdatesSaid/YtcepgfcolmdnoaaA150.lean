/- Walks through functions, by program out of the session's annotations. -/
import Derived.Test.YtcepgfcolmdnoaaA29
import Derived.Test.YtcepgfcolmdnoaaF3
namespace Go.Proofs.Ytcepgfcolmdnoaa.E
open Go Go.RowKit Go.Proofs
set_option linter.unusedVariables false
set_option linter.unusedSimpArgs false

def addI (p:Pnd) (x:Int × Int):Pnd:=⟨p.ins++[x],p.del⟩
def addIok (c:Crk) (p:Pnd) (x:Int × Int):Bool:=isPnd c p && isPnd c (addI p x)
def addIr (c:Crk) (p:Pnd) (x:Int × Int):Pnd:=if addIok c p x=true then addI p x else p

theorem e_tidy_A150_0 {P:Program} {N:Nat} {s:Slots} {R:List Res} {Q:Exit→Slots→List Res→Prop} {c:Code} (keep:List Nat) {base:Slots} {R':List Res} (h:ECode P N c base R' Q) (hb:keepOf s keep=base:=by simp only [E.keepOf,E.get,E.ev,E.cv,E.fill',E.fill,E.slotsOf,Res.sh,AC.sh,AC.sh.shs,AV.sh,E.splice,List.map_cons,List.map_nil,List.cons_append,List.nil_append,List.append_nil,List.length_cons,List.length_nil,List.take_zero,List.drop_zero,List.take_succ_cons,List.drop_succ_cons,List.drop_nil,List.take_nil,List.set_cons_zero,List.set_cons_succ,Nat.zero_add,Nat.add_zero,Nat.reduceAdd,Nat.reduceSub,reduceIte,Nat.reduceEqDiff,E.back,E.backR,E.ix,Res.un,AC.un,AC.un.uns,AV.un,E.un,Option.map_some,Option.map_none,Option.getD_some,List.getElem?_cons_zero,List.getElem?_cons_succ,List.getElem?_nil,pairs_app,pairs_lenApp,pndO,pndR];rfl) (hR:R=R':=by (try simp only [E.keepOf,E.get,E.ev,E.cv,E.fill',E.fill,E.slotsOf,Res.sh,AC.sh,AC.sh.shs,AV.sh,E.splice,List.map_cons,List.map_nil,List.cons_append,List.nil_append,List.append_nil,List.length_cons,List.length_nil,List.take_zero,List.drop_zero,List.take_succ_cons,List.drop_succ_cons,List.drop_nil,List.take_nil,List.set_cons_zero,List.set_cons_succ,Nat.zero_add,Nat.add_zero,Nat.reduceAdd,Nat.reduceSub,reduceIte,Nat.reduceEqDiff,E.back,E.backR,E.ix,Res.un,AC.un,AC.un.uns,AV.un,E.un,Option.map_some,Option.map_none,Option.getD_some,List.getElem?_cons_zero,List.getElem?_cons_succ,List.getElem?_nil,pairs_app,pairs_lenApp,pndO,pndR]);rfl):ECode P N c s R Q:=E_tidy keep hb hR h

set_option maxRecDepth 20000 in
set_option maxHeartbeats 2000000 in
theorem c_spec_AddInsert (c : Crk) (p : Pnd) (x : Int × Int) (hb : c.rows.length ≤ 1048576 ∧ p.ins.length ≤ 1048576 ∧ p.del.length ≤ 1048576) : EFn Try.prog 32 [.agg (crkC c), .agg (pndC p), .agg [.sc (.int .i64 x.1), .sc (.int .i64 x.2)]] [] (fun r S => r = .tup [(true, pndO 0 (addIr c p x)), (false, [.sc (.bool (addIok c p x))])] ∧ S = pndR 3 60 (addIr c p x)) := by
 refine E_fn Try.func32 rfl (Nat.le_of_ble_eq_true rfl) ?_
 refine E_seq ?_
 refine E_region' (L:=[0,1,2,3,4]) rfl ?_
 refine x_box rfl rfl rfl rfl rfl ?_
 refine x_box rfl rfl rfl rfl rfl ?_
 refine x_box rfl rfl rfl rfl rfl ?_
 refine x_alloc rfl rfl rfl rfl za_58 ?_
 refine xas ?_
 refine EOps_nil ?_
 refine E_seq ?_
 refine e_tidy_A150_0 [0,1,2,3,4,5,6,7] ?_
 refine E_region' (L:=[0,1,2,3]) rfl ?_
 refine x_light rfl rfl rfl (L_load rfl (xb0 ty_58)) ?_
 refine x_call rfl rfl rfl rfl rfl ca_108 (c_spec_l11Copy p ⟨by omega,hb.2.2⟩) ?_
 rintro r S ⟨rfl,rfl⟩
 refine x_alloc rfl rfl rfl rfl za_58 ?_
 refine EOps_go rfl rfl (EOp_store rfl rfl rfl (xb1 ty_58) ?_)
 refine EOps_nil ?_
 refine E_seq ?_
 refine E_region' (L:=[0,1,2,3,4,5,6]) rfl ?_
 refine x_pure rfl rfl rfl (l_field rfl fo_58_0) ?_
 refine x_light rfl rfl rfl (L_load rfl (xb0 ty_56)) ?_
 refine x_light rfl rfl rfl (L_load rfl (xb0 ty_60)) ?_
 refine EOps_go rfl rfl (Heavy.op (H_bslice_ro rfl rfl (by decide) sl_56 ty_60 za_60 ⟨rfl,by decide⟩ (by decide) rfl rfl rfl rfl ?_))
 refine EOps_go rfl rfl (EOp_append (news:=pairs [x]) rfl rfl (by decide) sl_56 ty_60 by_60 za_60 ⟨rfl,by decide⟩ rfl (by first|rfl|assumption) xb6 xb7 xb8 xb9 ?_)
 refine x_pure rfl rfl rfl (l_field rfl fo_58_0) ?_
 refine EOps_go rfl rfl (EOp_store rfl rfl rfl (xb1 ty_56) ?_)
 refine EOps_nil ?_
 refine E_seq ?_
 refine E_seq ?_
 refine e_tidy_A150_0 [0,1,2,3,4,5,6,7,8] ?_
 refine E_region' (L:=[0,1,2,3,4,5,6,7,8,9]) rfl ?_
 refine x_light rfl rfl rfl (L_load rfl (xb0 ty_27)) ?_
 refine x_light rfl rfl rfl (L_load rfl (xb0 ty_58)) ?_
 refine x_call rfl rfl rfl rfl rfl ca_109 (c_spec_IsPending c p ⟨hb.1,by omega⟩) ?_
 rintro r S ⟨rfl,rfl⟩
 refine x_pure rfl rfl rfl (L_not rfl rfl) ?_
 refine xmv ?_
 refine EOps_split 21 (b:=_) rfl (fun hg21=>?_) (fun hg21=>?_)
 ·refine x_skip rfl rfl rfl ?_
  refine x_skip rfl rfl rfl ?_
  refine x_skip rfl rfl rfl ?_
  refine x_skip rfl rfl rfl ?_
  refine x_pure rfl rfl rfl (L_pick rfl rfl) ?_
  refine EOps_nil ?_
  refine E_cond rfl (fun hc26=>?_) (fun hc26=>?_)
  ·have hf : addIok c p x = false := by
    simp [addIok]
    simp_all
   refine E_seq ?_
   refine e_tidy_A150_0 [0,1,2,3,4,5,6,7,8,26] ?_
   refine E_region' (L:=[0,1,2,3]) rfl ?_
   refine x_light rfl rfl rfl (L_load rfl (xb0 ty_58)) ?_
   refine x_call rfl rfl rfl rfl rfl ca_108 (c_spec_l11Copy p ⟨by omega,hb.2.2⟩) ?_
   rintro r S ⟨rfl,rfl⟩
   refine EOps_go rfl rfl (EOp_store rfl rfl rfl (xb1 ty_58) ?_)
   refine xas ?_
   refine EOps_nil ?_
   refine E_ret ?_
   refine⟨_,[7,8],rfl,rfl,?_,?_⟩
   ·simp [addIr,hf];rfl
   ·simp [addIr,hf];rfl
  ·exact Bool.noConfusion (hc26:true=false)
 ·refine x_light rfl rfl rfl (L_load rfl (xb2 ty_27)) ?_
  refine x_light rfl rfl rfl (L_load rfl (xb0 ty_58)) ?_
  refine x_call rfl rfl rfl rfl rfl ca_109 (c_spec_IsPending c (addI p x) ⟨hb.1,by simp [addI];omega⟩) ?_
  rintro r S ⟨rfl,rfl⟩
  refine x_pure rfl rfl rfl (L_not rfl rfl) ?_
  refine x_pure rfl rfl rfl (L_pick rfl rfl) ?_
  refine EOps_nil ?_
  refine E_cond rfl (fun hc26=>?_) (fun hc26=>?_)
  ·have hf : addIok c p x = false := by
    simp [addIok]
    simp_all
   refine E_seq ?_
   refine e_tidy_A150_0 [0,1,2,3,4,5,6,7,8,26] ?_
   refine E_region' (L:=[0,1,2,3]) rfl ?_
   refine x_light rfl rfl rfl (L_load rfl (xb0 ty_58)) ?_
   refine x_call rfl rfl rfl rfl rfl ca_108 (c_spec_l11Copy p ⟨by omega,hb.2.2⟩) ?_
   rintro r S ⟨rfl,rfl⟩
   refine EOps_go rfl rfl (EOp_store rfl rfl rfl (xb1 ty_58) ?_)
   refine xas ?_
   refine EOps_nil ?_
   refine E_ret ?_
   refine⟨_,[7,8],rfl,rfl,?_,?_⟩
   ·simp [addIr,hf];rfl
   ·simp [addIr,hf];rfl
  ·have hf : addIok c p x = true := by
    simp [addIok]
    simp_all
   refine E_skip ?_
   refine E_seq ?_
   refine E_region' (L:=[0,1,2]) rfl ?_
   refine x_light rfl rfl rfl (L_load rfl (xb0 ty_58)) ?_
   refine EOps_go rfl rfl (EOp_store rfl rfl rfl (xb1 ty_58) ?_)
   refine xas ?_
   refine EOps_nil ?_
   refine E_ret ?_
   refine⟨_,[4,5],rfl,rfl,?_,?_⟩
   ·simp [addIr,hf,addI,pndO];rfl
   ·simp [addIr,hf,addI];rfl

end Go.Proofs.Ytcepgfcolmdnoaa.E
