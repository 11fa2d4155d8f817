/- Walks and words, put together. -/
import Derived.Test.YtlodlnbhjghjoaaGreatA120
import Derived.Test.YtlodlnbhjghjoaaGreatA08
import Derived.Test.YtlodlnbhjghjoaaGreatA52
import Derived.Test.YtlodlnbhjghjoaaGreatF4
import Derived.Test.YtlodlnbhjghjoaaGreatA29
import Derived.Test.YtlodlnbhjghjoaaGreatF3
namespace Go.Proofs.YtlodlnbhjghjoaaGreat.E
open Go Go.RowKit Go.Proofs
set_option linter.unusedVariables false
set_option linter.unusedSimpArgs false

theorem newCrk_small (xs : List Int) : (newCrk xs).vals.length ≤ xs.length ∧ (newCrk xs).rows.length ≤ xs.length ∧ (newCrk xs).piv.length = 0 := by
 unfold newCrk
 split
 ·refine ⟨Nat.le_refl _, ?_, rfl⟩
  dsimp only
  rw [upto_len]
  exact Nat.le_refl _
 exact⟨Nat.zero_le _,Nat.zero_le _,rfl⟩
theorem crkAtC_small (Y : Crk) (v : Int) : (crkAtC Y v).vals.length = Y.vals.length ∧ (crkAtC Y v).rows.length = Y.rows.length ∧ (crkAtC Y v).piv.length ≤ Y.piv.length + 1 := by
 unfold crkAtC
 split
 ·refine ⟨crackC_vals, ?_, ?_⟩
  ·rw [crackC]
   split
   ·rfl
   simp [withPv,swaped,swps_len]
  rw [crackC_piv]
  split<;>omega
 omega

end Go.Proofs.YtlodlnbhjghjoaaGreat.E

namespace Go.Proofs.YtlodlnbhjghjoaaGreat.E
open Go Go.RowKit Go.Proofs
set_option linter.unusedVariables false
set_option linter.unusedSimpArgs false

def addI (p:Pnd) (x:Int × Int):Pnd:=⟨p.ins++[x],p.del⟩
def addIok (c:Crk) (p:Pnd) (x:Int × Int):Bool:=isPnd c p && isPnd c (addI p x)
def addIr (c:Crk) (p:Pnd) (x:Int × Int):Pnd:=if addIok c p x=true then addI p x else p

theorem e_tidy_A150_0 {P:Program} {N:Nat} {s:Slots} {R:List Res} {Q:Exit→Slots→List Res→Prop} {c:Code} (keep:List Nat) {base:Slots} {R':List Res} (h:ECode P N c base R' Q) (hb:keepOf s keep=base:=by simp only [E.keepOf,E.get,E.ev,E.cv,E.fill',E.fill,E.slotsOf,Res.sh,AC.sh,AC.sh.shs,AV.sh,E.splice,List.map_cons,List.map_nil,List.cons_append,List.nil_append,List.append_nil,List.length_cons,List.length_nil,List.take_zero,List.drop_zero,List.take_succ_cons,List.drop_succ_cons,List.drop_nil,List.take_nil,List.set_cons_zero,List.set_cons_succ,Nat.zero_add,Nat.add_zero,Nat.reduceAdd,Nat.reduceSub,reduceIte,Nat.reduceEqDiff,E.back,E.backR,E.ix,Res.un,AC.un,AC.un.uns,AV.un,E.un,Option.map_some,Option.map_none,Option.getD_some,List.getElem?_cons_zero,List.getElem?_cons_succ,List.getElem?_nil,pairs_app,pairs_lenApp,pndO,pndR];rfl) (hR:R=R':=by (try simp only [E.keepOf,E.get,E.ev,E.cv,E.fill',E.fill,E.slotsOf,Res.sh,AC.sh,AC.sh.shs,AV.sh,E.splice,List.map_cons,List.map_nil,List.cons_append,List.nil_append,List.append_nil,List.length_cons,List.length_nil,List.take_zero,List.drop_zero,List.take_succ_cons,List.drop_succ_cons,List.drop_nil,List.take_nil,List.set_cons_zero,List.set_cons_succ,Nat.zero_add,Nat.add_zero,Nat.reduceAdd,Nat.reduceSub,reduceIte,Nat.reduceEqDiff,E.back,E.backR,E.ix,Res.un,AC.un,AC.un.uns,AV.un,E.un,Option.map_some,Option.map_none,Option.getD_some,List.getElem?_cons_zero,List.getElem?_cons_succ,List.getElem?_nil,pairs_app,pairs_lenApp,pndO,pndR]);rfl):ECode P N c s R Q:=E_tidy keep hb hR h

set_option maxRecDepth 20000 in
set_option maxHeartbeats 2000000 in
theorem c_spec_AddInsert (c : Crk) (p : Pnd) (x : Int × Int) (hb : c.rows.length ≤ 1048576 ∧ p.ins.length ≤ 1048576 ∧ p.del.length ≤ 1048576) : EFn Tryz.prog 201 [.agg (crkC c), .agg (pndC p), .agg [.sc (.int .i64 x.1), .sc (.int .i64 x.2)]] [] (fun r S => r = .tup [(true, pndO 0 (addIr c p x)), (false, [.sc (.bool (addIok c p x))])] ∧ S = pndR 3 104 (addIr c p x)) := by
 refine E_fn Tryz.func201 rfl (Nat.le_of_ble_eq_true rfl) ?_
 refine E_seq ?_
 refine E_region' (L:=[0,1,2,3,4]) rfl ?_
 refine x_box rfl rfl rfl rfl rfl ?_
 refine x_box rfl rfl rfl rfl rfl ?_
 refine x_box rfl rfl rfl rfl rfl ?_
 refine x_alloc rfl rfl rfl rfl za_91 ?_
 refine xas ?_
 refine EOps_nil ?_
 refine E_seq ?_
 refine e_tidy_A150_0 [0,1,2,3,4,5,6,7] ?_
 refine E_region' (L:=[0,1,2,3]) rfl ?_
 refine l_ rfl (L_load rfl (xb0 ty_91)) ?_
 refine x_call rfl rfl rfl rfl rfl ca_137 (c_spec_l11Copy p ⟨by omega,hb.2.2⟩) ?_
 rintro r S ⟨rfl,rfl⟩
 refine x_alloc rfl rfl rfl rfl za_91 ?_
 refine EOps_go rfl rfl (EOp_store rfl rfl rfl (xb1 ty_91) ?_)
 refine EOps_nil ?_
 refine E_seq ?_
 refine E_region' (L:=[0,1,2,3,4,5,6]) rfl ?_
 refine p_ rfl (l_field rfl fo_91_0) ?_
 refine l_ rfl (L_load rfl (xb0 ty_89)) ?_
 refine l_ rfl (L_load rfl (xb0 ty_104)) ?_
 refine EOps_go rfl rfl (Heavy.op (H_bslice_ro rfl rfl (by decide) sl_89 ty_104 za_104 ⟨rfl,by decide⟩ (by decide) rfl rfl rfl rfl ?_))
 refine EOps_go rfl rfl (EOp_append (news:=pairs [x]) rfl rfl (by decide) sl_89 ty_104 by_104 za_104 ⟨rfl,by decide⟩ rfl (by first|rfl|assumption) xb6 xb7 xb8 xb9 ?_)
 refine p_ rfl (l_field rfl fo_91_0) ?_
 refine EOps_go rfl rfl (EOp_store rfl rfl rfl (xb1 ty_89) ?_)
 refine EOps_nil ?_
 refine E_seq ?_
 refine E_seq ?_
 refine e_tidy_A150_0 [0,1,2,3,4,5,6,7,8] ?_
 refine E_region' (L:=[0,1,2,3,4,5,6,7,8,9]) rfl ?_
 refine l_ rfl (L_load rfl (xb0 ty_49)) ?_
 refine l_ rfl (L_load rfl (xb0 ty_91)) ?_
 refine x_call rfl rfl rfl rfl rfl ca_72 (c_spec_IsPending c p ⟨hb.1,by omega⟩) ?_
 rintro r S ⟨rfl,rfl⟩
 refine p_ rfl (L_not rfl rfl) ?_
 refine xmv ?_
 refine EOps_split 21 (b:=_) rfl (fun hg21=>?_) (fun hg21=>?_)
 ·refine s_ rfl ?_
  refine s_ rfl ?_
  refine s_ rfl ?_
  refine s_ rfl ?_
  refine p_ rfl (L_pick rfl rfl) ?_
  refine EOps_nil ?_
  refine E_cond rfl (fun hc26=>?_) (fun hc26=>?_)
  ·have hf : addIok c p x = false := by
    simp [addIok]
    simp_all
   refine E_seq ?_
   refine e_tidy_A150_0 [0,1,2,3,4,5,6,7,8,26] ?_
   refine E_region' (L:=[0,1,2,3]) rfl ?_
   refine l_ rfl (L_load rfl (xb0 ty_91)) ?_
   refine x_call rfl rfl rfl rfl rfl ca_137 (c_spec_l11Copy p ⟨by omega,hb.2.2⟩) ?_
   rintro r S ⟨rfl,rfl⟩
   refine EOps_go rfl rfl (EOp_store rfl rfl rfl (xb1 ty_91) ?_)
   refine xas ?_
   refine EOps_nil ?_
   refine E_ret ?_
   refine⟨_,[7,8],rfl,rfl,?_,?_⟩
   ·simp [addIr,hf];rfl
   simp [addIr,hf];rfl
  exact Bool.noConfusion (hc26:true=false)
 refine l_ rfl (L_load rfl (xb3 ty_49)) ?_
 refine l_ rfl (L_load rfl (xb0 ty_91)) ?_
 refine x_call rfl rfl rfl rfl rfl ca_72 (c_spec_IsPending c (addI p x) ⟨hb.1,by simp [addI];omega⟩) ?_
 rintro r S ⟨rfl,rfl⟩
 refine p_ rfl (L_not rfl rfl) ?_
 refine p_ rfl (L_pick rfl rfl) ?_
 refine EOps_nil ?_
 refine E_cond rfl (fun hc26=>?_) (fun hc26=>?_)
 ·have hf : addIok c p x = false := by
   simp [addIok]
   simp_all
  refine E_seq ?_
  refine e_tidy_A150_0 [0,1,2,3,4,5,6,7,8,26] ?_
  refine E_region' (L:=[0,1,2,3]) rfl ?_
  refine l_ rfl (L_load rfl (xb0 ty_91)) ?_
  refine x_call rfl rfl rfl rfl rfl ca_137 (c_spec_l11Copy p ⟨by omega,hb.2.2⟩) ?_
  rintro r S ⟨rfl,rfl⟩
  refine EOps_go rfl rfl (EOp_store rfl rfl rfl (xb1 ty_91) ?_)
  refine xas ?_
  refine EOps_nil ?_
  refine E_ret ?_
  refine⟨_,[7,8],rfl,rfl,?_,?_⟩
  ·simp [addIr,hf];rfl
  simp [addIr,hf];rfl
 have hf : addIok c p x = true := by
  simp [addIok]
  simp_all
 refine E_skip ?_
 refine E_seq ?_
 refine E_region' (L:=[0,1,2]) rfl ?_
 refine l_ rfl (L_load rfl (xb0 ty_91)) ?_
 refine EOps_go rfl rfl (EOp_store rfl rfl rfl (xb1 ty_91) ?_)
 refine xas ?_
 refine EOps_nil ?_
 refine E_ret ?_
 refine⟨_,[4,5],rfl,rfl,?_,?_⟩
 ·simp [addIr,hf,addI,pndO];rfl
 simp [addIr,hf,addI];rfl

end Go.Proofs.YtlodlnbhjghjoaaGreat.E
