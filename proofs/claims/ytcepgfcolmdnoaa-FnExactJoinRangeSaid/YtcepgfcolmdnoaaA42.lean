/- Walks through functions, by program out of the session's annotations. -/
import Derived.Test.YtcepgfcolmdnoaaA40
import Derived.Test.YtcepgfcolmdnoaaA06
import Derived.Test.YtcepgfcolmdnoaaA09
import Derived.Test.YtcepgfcolmdnoaaF3
namespace Go.Proofs.Ytcepgfcolmdnoaa.E
open Go Go.RowKit Go.Proofs
set_option linter.unusedVariables false
set_option linter.unusedSimpArgs false

def isRng (r:Int × Int):Bool:=decide (-1000≤r.1) && decide (r.1≤r.2) && decide (r.2≤1000)
theorem rng_bnd {r : Int × Int} (h : isRng r = true) : bnd r.1 = true ∧ bnd r.2 = true := by
 simp only [isRng,Bool.and_eq_true,decide_eq_true_eq] at h
 simp only [bnd,isIn,Bool.and_eq_true,decide_eq_true_eq]
 omega
theorem crackC_ok {c : Crk} {v : Int} (hc : isCrk c = true) (hv : bnd v = true) : isCrk (crackC c v).1 = true ∧ (crackC c v).2.length ≤ 64 := by
 have hl:=crk_lens hc
 have hb:=pc_bounds hc v
 cases hp:isPv c.piv v
 ·have hcr : crackC c v = (withPv (swaped c (partC c v).1) (v, (partC c v).2), (partC c v).1) := by rw [crackC, if_neg (by simp [hp])]
  obtain⟨at_,k1,k2,k3,k4,k5,k6,k7⟩:=crack_ok hc hv hp
  rw [hcr]
  exact⟨k7,by dsimp only;omega⟩
 have hcr : crackC c v = (c, []) := by rw [crackC, if_pos hp]
 rw [hcr]
 exact⟨hc,by simp⟩
theorem c_spec_CrackAt_ok (c : Crk) (v : Int) (hc : isCrk c = true) (hv : bnd v = true) : EFn Try.prog 15 [.agg (crkC c), .c (.sc (.int .i64 v))] [] (fun r S => r = .tup [(true, crkO 0 (crackC c v).1), (false, [.sl 3 0 (crackC c v).2.length (crackC c v).2.length]), (false, [.sc (.bool true)])] ∧ S = crkR 3 129 (crackC c v).1 ++ [.row 119 2 (pairs (crackC c v).2)]) := by
 have hl:=crk_lens hc
 have h:=c_spec_CrackAt c v ⟨by omega,by omega,by omega⟩
 have hk:crkAtK c v=true:=by simp [crkAtK,hc,hv]
 have e1:crkAtC c v=(crackC c v).1:=by simp [crkAtC,hk]
 have e2:crkAtS c v=(crackC c v).2:=by simp [crkAtS,hk]
 rw [hk,e1,e2] at h
 exact h
/-- A range selected: column, ends, swaps. -/
def selK (c:Crk) (r:Int × Int):Bool:=isCrk c && isRng r
def sel2 (c:Crk) (r:Int × Int):Crk × List (Int × Int):=crackC (crackC c r.1).1 r.2
def selC (c:Crk) (r:Int × Int):Crk:=if selK c r=true then (sel2 c r).1 else c
def selLo (c:Crk) (r:Int × Int):Int:=if selK c r=true then fpAt (sel2 c r).1.piv r.1 else 0
def selHi (c:Crk) (r:Int × Int):Int:=if selK c r=true then fpAt (sel2 c r).1.piv r.2 else 0
def selN (c:Crk) (r:Int × Int):Int:=if selK c r=true then ((crackC c r.1).2.length:Int)+((sel2 c r).2.length:Int) else 0
theorem sel_le {c : Crk} {r : Int × Int} (h : c.vals.length ≤ 1048576 ∧ c.rows.length ≤ 1048576 ∧ c.piv.length ≤ 1048576) : (selC c r).vals.length ≤ 1048576 ∧ (selC c r).rows.length ≤ 1048576 ∧ (selC c r).piv.length ≤ 1048576 := by
 unfold selC
 split
 ·rename_i hk
  have hcv:isCrk c=true∧isRng r=true:=by simpa [selK] using hk
  have hbd:=rng_bnd hcv.2
  have hl:=crk_lens (crackC_ok (crackC_ok hcv.1 hbd.1).1 hbd.2).1
  rw [sel2];omega
 exact h

set_option maxRecDepth 20000 in
set_option maxHeartbeats 2000000 in
theorem c_spec_IsRange (r : Int × Int) : EFn Try.prog 22 [.agg [.sc (.int .i64 r.1), .sc (.int .i64 r.2)]] [] (fun y S => y = .c (.sc (.bool (isRng r))) ∧ S = []) := by
 refine E_fn Try.func22 rfl (Nat.le_of_ble_eq_true rfl) ?_
 refine E_seq ?_
 refine E_region' (L:=[0,1]) rfl ?_
 refine x_box rfl rfl rfl rfl rfl ?_
 refine xas ?_
 refine EOps_nil ?_
 refine E_seq ?_
 refine E_region' (L:=[0,1,2,3,4,5,6,7,8,9,10]) rfl ?_
 refine p_ rfl (l_field rfl fo_41_0) ?_
 refine l_ rfl (L_load rfl (xb0 ty_3)) ?_
 refine x_call rfl rfl rfl rfl rfl ca_81 (c_spec_l1In r.1 (-1000) 1000) ?_
 rintro r S ⟨rfl,rfl⟩
 refine xmv ?_
 refine EOps_split 6 (b:=_) rfl (fun hg6=>?_) (fun hg6=>?_)
 ·refine p_ rfl (l_field rfl fo_41_1) ?_
  refine l_ rfl (L_load rfl (xb0 ty_3)) ?_
  refine p_ rfl (l_field rfl fo_41_0) ?_
  refine l_ rfl (L_load rfl (xb0 ty_3)) ?_
  refine x_call rfl rfl rfl rfl rfl ca_81 (c_spec_l1In r.2 r.1 1000) ?_
  rintro r S ⟨rfl,rfl⟩
  refine p_ rfl (L_pick rfl rfl) ?_
  refine xas ?_
  refine EOps_nil ?_
  refine E_ret ?_
  refine⟨_,[],rfl,rfl,?_,rfl⟩
  first
   | (simp [isIn] at hg6;show AV.c (.sc (.bool (isIn r.2 r.1 1000)))=_;simp [isRng,isIn,hg6];done)
   | (simp [isIn] at hg6;show AV.c (.sc (.bool false))=_;simp [isRng];omega)
 refine s_ rfl ?_
 refine s_ rfl ?_
 refine s_ rfl ?_
 refine s_ rfl ?_
 refine s_ rfl ?_
 refine p_ rfl (L_pick rfl rfl) ?_
 refine xas ?_
 refine EOps_nil ?_
 refine E_ret ?_
 refine⟨_,[],rfl,rfl,?_,rfl⟩
 first
  | (simp [isIn] at hg6;show AV.c (.sc (.bool (isIn r.2 r.1 1000)))=_;simp [isRng,isIn,hg6];done)
  | (simp [isIn] at hg6;show AV.c (.sc (.bool false))=_;simp [isRng];omega)

set_option maxRecDepth 20000 in
set_option maxHeartbeats 2000000 in
theorem c_impl_IsRange (r : Int × Int) : EFn Try.prog 94 [.agg [.sc (.int .i64 r.1), .sc (.int .i64 r.2)]] [] (fun y S => y = .c (.sc (.bool (isRng r))) ∧ S = []) := by
 refine E_fn Try.func94 rfl (Nat.le_of_ble_eq_true rfl) ?_
 refine E_seq ?_
 refine E_region' (L:=[0,1]) rfl ?_
 refine x_box rfl rfl rfl rfl rfl ?_
 refine xas ?_
 refine EOps_nil ?_
 refine E_seq ?_
 refine E_region' (L:=[0,1,2,3,4,5,6,7,8,9,10,11,12,13,14,15]) rfl ?_
 refine p_ rfl (l_field rfl fo_41_0) ?_
 refine l_ rfl (L_load rfl (xb0 ty_3)) ?_
 refine p_ rfl (L_bin rfl rfl rfl rfl) ?_
 refine xmv ?_
 refine EOps_split 6 (b:=_) rfl (fun hg6=>?_) (fun hg6=>?_)
 ·refine p_ rfl (l_field rfl fo_41_0) ?_
  refine l_ rfl (L_load rfl (xb0 ty_3)) ?_
  refine p_ rfl (l_field rfl fo_41_1) ?_
  refine l_ rfl (L_load rfl (xb0 ty_3)) ?_
  refine p_ rfl (L_bin rfl rfl rfl rfl) ?_
  refine p_ rfl (L_pick rfl rfl) ?_
  refine xmv ?_
  refine EOps_split 13 (b:=_) rfl (fun hg13=>?_) (fun hg13=>?_)
  ·refine p_ rfl (l_field rfl fo_41_1) ?_
   refine l_ rfl (L_load rfl (xb0 ty_3)) ?_
   refine p_ rfl (L_bin rfl rfl rfl rfl) ?_
   refine p_ rfl (L_pick rfl rfl) ?_
   refine xas ?_
   refine EOps_nil ?_
   refine E_ret ?_
   refine⟨_,[],rfl,rfl,?_,rfl⟩
   simp [AV.ren,ren_sc,ren_ro,AC.ren,AC.ren.rens,ix,rv1,E.get,E.ev,E.cv,E.fill',E.fill,E.slotsOf,isRng,isIn, *] at *
   try omega
  refine s_ rfl ?_
  refine s_ rfl ?_
  refine s_ rfl ?_
  refine p_ rfl (L_pick rfl rfl) ?_
  refine xas ?_
  refine EOps_nil ?_
  refine E_ret ?_
  refine⟨_,[],rfl,rfl,?_,rfl⟩
  simp [AV.ren,ren_sc,ren_ro,AC.ren,AC.ren.rens,ix,rv1,E.get,E.ev,E.cv,E.fill',E.fill,E.slotsOf,isRng,isIn, *] at *
  try omega
 refine s_ rfl ?_
 refine s_ rfl ?_
 refine s_ rfl ?_
 refine s_ rfl ?_
 refine s_ rfl ?_
 refine p_ rfl (L_pick rfl rfl) ?_
 refine xmv ?_
 refine s_ rfl ?_
 refine s_ rfl ?_
 refine s_ rfl ?_
 refine p_ rfl (L_pick rfl rfl) ?_
 refine xas ?_
 refine EOps_nil ?_
 refine E_ret ?_
 refine⟨_,[],rfl,rfl,?_,rfl⟩
 simp [AV.ren,ren_sc,ren_ro,AC.ren,AC.ren.rens,ix,rv1,E.get,E.ev,E.cv,E.fill',E.fill,E.slotsOf,isRng,isIn, *] at *
 try omega

set_option maxRecDepth 20000 in
set_option maxHeartbeats 2000000 in
theorem c_laws_toRange (x y : Int) : EFn Try.prog 69 [.agg [.sc (.int .i64 x), .sc (.int .i64 y)]] [] (fun r S => r = .agg [.sc (.int .i64 x), .sc (.int .i64 y)] ∧ S = []) := by
 refine E_fn Try.func69 rfl (Nat.le_of_ble_eq_true rfl) ?_
 refine E_seq ?_
 refine E_region' (L:=[0,1]) rfl ?_
 refine x_box rfl rfl rfl rfl rfl ?_
 refine x_alloc rfl rfl rfl rfl za_41 ?_
 refine EOps_nil ?_
 refine E_seq ?_
 refine E_region' (L:=[0]) rfl ?_
 refine x_alloc rfl rfl rfl rfl za_41 ?_
 refine EOps_nil ?_
 refine E_seq ?_
 refine E_region' (L:=[0,1,2,3]) rfl ?_
 refine p_ rfl (l_field rfl fo_101_0) ?_
 refine l_ rfl (L_load rfl (xb0 ty_3)) ?_
 refine p_ rfl (l_field rfl fo_41_0) ?_
 refine EOps_go rfl rfl (EOp_store rfl rfl rfl (xb1 ty_3) ?_)
 refine EOps_nil ?_
 refine E_seq ?_
 refine E_region' (L:=[0,1,2,3]) rfl ?_
 refine p_ rfl (l_field rfl fo_101_1) ?_
 refine l_ rfl (L_load rfl (xb0 ty_3)) ?_
 refine p_ rfl (l_field rfl fo_41_1) ?_
 refine EOps_go rfl rfl (EOp_store rfl rfl rfl (xb1 ty_3) ?_)
 refine EOps_nil ?_
 refine E_seq ?_
 refine E_region' (L:=[0,1]) rfl ?_
 refine l_ rfl (L_load rfl (xb0 ty_41)) ?_
 refine EOps_go rfl rfl (EOp_store rfl rfl rfl (xb1 ty_41) ?_)
 refine EOps_nil ?_
 refine E_ret ?_
 exact⟨_,[],rfl,rfl,rfl,rfl⟩

set_option maxRecDepth 20000 in
set_option maxHeartbeats 4000000 in
theorem c_impl_SelectRange (c : Crk) (r : Int × Int) (hb : c.vals.length ≤ 1048576 ∧ c.rows.length ≤ 1048576 ∧ c.piv.length ≤ 1048576) : EFn Try.prog 19 [.agg (crkC c), .agg [.sc (.int .i64 r.1), .sc (.int .i64 r.2)]] [] (fun y S => y = .tup [(true, crkO 0 (selC c r)), (false, [.sc (.int .i64 (selLo c r))]), (false, [.sc (.int .i64 (selHi c r))]), (false, [.sc (.int .i64 (selN c r))])] ∧ S = crkR 3 129 (selC c r)) := by
 refine E_fn Try.func19 rfl (Nat.le_of_ble_eq_true rfl) ?_
 refine E_seq ?_
 refine E_region' (L:=[0,1,2,3,4,5]) rfl ?_
 refine x_box rfl rfl rfl rfl rfl ?_
 refine x_box rfl rfl rfl rfl rfl ?_
 refine x_alloc rfl rfl rfl rfl za_27 ?_
 refine xas ?_
 refine xas ?_
 refine xas ?_
 refine EOps_nil ?_
 refine E_seq ?_
 refine E_seq ?_
 refine e_tidy_A37_2 [0,1,2,3,4,5,6,7] ?_
 refine E_region' (L:=[0,1,2,3,4,5,6,7]) rfl ?_
 refine l_ rfl (L_load rfl (xb0 ty_27)) ?_
 refine x_call rfl rfl rfl rfl rfl ca_28 (c_impl_IsCracker c) ?_
 rintro r S ⟨rfl,rfl⟩
 refine p_ rfl (L_not rfl rfl) ?_
 refine xmv ?_
 refine EOps_split 18 (b:=_) rfl (fun hg18=>?_) (fun hg18=>?_)
 ·refine s_ rfl ?_
  refine s_ rfl ?_
  refine s_ rfl ?_
  refine p_ rfl (L_pick rfl rfl) ?_
  refine EOps_nil ?_
  refine E_cond rfl (fun hc22=>?_) (fun hc22=>?_)
  ·have hk : selK c r = false := by
    simp only [selK]
    simp_all
   have hcc:selC c r=c∧selLo c r=0∧selHi c r=0∧selN c r=0:=by simp [selC,selLo,selHi,selN,hk]
   refine E_seq ?_
   refine e_tidy_A37_2 [0,1,2,3,4,5,6,7,22] ?_
   refine E_region' (L:=[0,1,2,3,4,5]) rfl ?_
   refine l_ rfl (L_load rfl (xb0 ty_27)) ?_
   refine x_call rfl rfl rfl rfl rfl ca_95 (c_impl_copyCracker c hb) ?_
   rintro r S ⟨rfl,rfl⟩
   refine EOps_go rfl rfl (EOp_store rfl rfl rfl (xb1 ty_27) ?_)
   refine xas ?_
   refine xas ?_
   refine xas ?_
   refine EOps_nil ?_
   refine E_ret ?_
   refine⟨_,[3,4,5],rfl,rfl,?_,?_⟩
   ·rw [hcc.1,hcc.2.1,hcc.2.2.1,hcc.2.2.2];rfl
   rw [hcc.1];rfl
  exact Bool.noConfusion (hc22:true=false)
 refine l_ rfl (L_load rfl (xb6 ty_41)) ?_
 refine x_call rfl rfl rfl rfl rfl ca_94 (c_impl_IsRange r) ?_
 rintro r S ⟨rfl,rfl⟩
 refine p_ rfl (L_not rfl rfl) ?_
 refine p_ rfl (L_pick rfl rfl) ?_
 refine EOps_nil ?_
 refine E_cond rfl (fun hc22=>?_) (fun hc22=>?_)
 ·have hk : selK c r = false := by
   simp only [selK]
   simp_all
  have hcc:selC c r=c∧selLo c r=0∧selHi c r=0∧selN c r=0:=by simp [selC,selLo,selHi,selN,hk]
  refine E_seq ?_
  refine e_tidy_A37_2 [0,1,2,3,4,5,6,7,22] ?_
  refine E_region' (L:=[0,1,2,3,4,5]) rfl ?_
  refine l_ rfl (L_load rfl (xb0 ty_27)) ?_
  refine x_call rfl rfl rfl rfl rfl ca_95 (c_impl_copyCracker c hb) ?_
  rintro r S ⟨rfl,rfl⟩
  refine EOps_go rfl rfl (EOp_store rfl rfl rfl (xb1 ty_27) ?_)
  refine xas ?_
  refine xas ?_
  refine xas ?_
  refine EOps_nil ?_
  refine E_ret ?_
  refine⟨_,[3,4,5],rfl,rfl,?_,?_⟩
  ·rw [hcc.1,hcc.2.1,hcc.2.2.1,hcc.2.2.2];rfl
  rw [hcc.1];rfl
 have hk : selK c r = true := by
  simp only [selK]
  simp_all
 have hcv:isCrk c=true∧isRng r=true:=by simpa [selK] using hk
 have hbd:=rng_bnd hcv.2
 have hok1:=crackC_ok hcv.1 hbd.1
 have hcc:selC c r=(sel2 c r).1∧selLo c r=fpAt (sel2 c r).1.piv r.1∧selHi c r=fpAt (sel2 c r).1.piv r.2∧selN c r=((crackC c r.1).2.length:Int)+((sel2 c r).2.length:Int):=by simp [selC,selLo,selHi,selN,hk]
 simp only [sel2] at hcc
 refine E_skip ?_
 refine E_seq ?_
 refine e_tidy_A37_2 [0,1,2,3,4,5,6,7,22] ?_
 refine E_region' (L:=[0,1,2,3,4,5,6,7,8,9]) rfl ?_
 refine l_ rfl (L_load rfl (xb0 ty_27)) ?_
 refine p_ rfl (l_field rfl fo_41_0) ?_
 refine l_ rfl (L_load rfl (xb0 ty_3)) ?_
 refine x_call rfl rfl rfl rfl rfl ca_96 (c_impl_crack c r.1 hcv.1 hbd.1) ?_ (hq:=by rintro r S ⟨rfl,rfl⟩;exact⟨rfl,rfl⟩)
 rintro r S ⟨rfl,rfl⟩
 rw [crkT]
 generalize crackC c r.1=P at *
 obtain⟨c1,s1⟩:=P
 dsimp only at hok1 hcc
 have hok2:=crackC_ok hok1.1 hbd.2
 refine xmv ?_
 refine p_ rfl (L_extract rfl rfl) ?_
 refine p_ rfl (L_extract rfl rfl) ?_
 refine x_alloc rfl rfl rfl rfl za_27 ?_
 refine EOps_go rfl rfl (EOp_store rfl rfl rfl (xb1 ty_27) ?_)
 refine xas ?_
 refine EOps_nil ?_
 refine E_seq ?_
 refine e_tidy_A37_2 [0,1,2,3,4,5,6,7,8,9,22] ?_
 refine E_region' (L:=[0,1,2,3,4,5,6,7,8]) rfl ?_
 refine l_ rfl (L_load rfl (xb0 ty_27)) ?_
 refine p_ rfl (l_field rfl fo_41_1) ?_
 refine l_ rfl (L_load rfl (xb0 ty_3)) ?_
 refine x_call rfl rfl rfl rfl rfl ca_96 (c_impl_crack c1 r.2 hok1.1 hbd.2) ?_ (hq:=by rintro r S ⟨rfl,rfl⟩;exact⟨rfl,rfl⟩)
 rintro r S ⟨rfl,rfl⟩
 rw [crkT]
 generalize crackC c1 r.2=P at *
 obtain⟨c2,s2⟩:=P
 dsimp only at hok2 hcc
 have hl2:=crk_lens hok2.1
 refine xmv ?_
 refine p_ rfl (L_extract rfl rfl) ?_
 refine p_ rfl (L_extract rfl rfl) ?_
 refine EOps_go rfl rfl (EOp_store rfl rfl rfl (xb1 ty_27) ?_)
 refine xas ?_
 refine EOps_nil ?_
 refine E_seq ?_
 refine e_tidy_A37_2 [0,1,2,3,4,5,6,7,8,9,10,22] ?_
 refine E_region' (L:=[0,1,2,3,4,5,6,7,8]) rfl ?_
 refine l_ rfl (L_load rfl (xb0 ty_27)) ?_
 refine p_ rfl (l_field rfl fo_41_0) ?_
 refine l_ rfl (L_load rfl (xb0 ty_3)) ?_
 refine x_call rfl rfl rfl rfl rfl ca_23 (c_impl_FindPivot c2 r.1 (by omega)) ?_
 rintro r S ⟨rfl,rfl⟩
 refine xmv ?_
 refine p_ rfl (L_extract rfl rfl) ?_
 refine p_ rfl (L_extract rfl rfl) ?_
 refine xas ?_
 refine xas ?_
 refine EOps_nil ?_
 refine E_seq ?_
 refine e_tidy_A37_2 [0,1,2,3,4,5,6,7,8,9,10,11,22] ?_
 refine E_region' (L:=[0,1,2,3,4,5,6,7,8]) rfl ?_
 refine l_ rfl (L_load rfl (xb0 ty_27)) ?_
 refine p_ rfl (l_field rfl fo_41_1) ?_
 refine l_ rfl (L_load rfl (xb0 ty_3)) ?_
 refine x_call rfl rfl rfl rfl rfl ca_23 (c_impl_FindPivot c2 r.2 (by omega)) ?_
 rintro r S ⟨rfl,rfl⟩
 refine xmv ?_
 refine p_ rfl (L_extract rfl rfl) ?_
 refine p_ rfl (L_extract rfl rfl) ?_
 refine xas ?_
 refine xas ?_
 refine EOps_nil ?_
 refine E_seq ?_
 refine E_region' (L:=[0,1,2,3,4,5,6,7,8,9,10,11]) rfl ?_
 refine l_ rfl (L_load rfl (xb0 ty_27)) ?_
 refine xmv ?_
 refine xmv ?_
 refine xmv ?_
 refine p_ rfl (l_len rfl sl_35) ?_
 refine xmv ?_
 refine p_ rfl (l_len rfl sl_35) ?_
 refine p_ rfl xb2 ?_
 refine EOps_go rfl rfl (EOp_store rfl rfl rfl (xb1 ty_27) ?_)
 refine xas ?_
 refine xas ?_
 refine xas ?_
 refine EOps_nil ?_
 refine E_ret ?_
 refine⟨_,[8,9,10],rfl,rfl,?_,?_⟩
 ·rw [hcc.1,hcc.2.1,hcc.2.2.1,hcc.2.2.2];rfl
 rw [hcc.1];rfl

set_option maxRecDepth 20000 in
set_option maxHeartbeats 4000000 in
theorem c_spec_SelectRange (c : Crk) (r : Int × Int) (hb : c.vals.length ≤ 1048576 ∧ c.rows.length ≤ 1048576 ∧ c.piv.length ≤ 1048576) : EFn Try.prog 20 [.agg (crkC c), .agg [.sc (.int .i64 r.1), .sc (.int .i64 r.2)]] [] (fun y S => y = .tup [(true, crkO 0 (selC c r)), (false, [.sc (.int .i64 (selLo c r))]), (false, [.sc (.int .i64 (selHi c r))]), (false, [.sc (.int .i64 (selN c r))])] ∧ S = crkR 3 129 (selC c r)) := by
 refine E_fn Try.func20 rfl (Nat.le_of_ble_eq_true rfl) ?_
 refine E_seq ?_
 refine E_region' (L:=[0,1,2,3,4,5]) rfl ?_
 refine x_box rfl rfl rfl rfl rfl ?_
 refine x_box rfl rfl rfl rfl rfl ?_
 refine x_alloc rfl rfl rfl rfl za_27 ?_
 refine xas ?_
 refine xas ?_
 refine xas ?_
 refine EOps_nil ?_
 refine E_seq ?_
 refine E_seq ?_
 refine e_tidy_A37_2 [0,1,2,3,4,5,6,7] ?_
 refine E_region' (L:=[0,1,2,3,4,5,6,7]) rfl ?_
 refine l_ rfl (L_load rfl (xb0 ty_27)) ?_
 refine x_call rfl rfl rfl rfl rfl ca_21 (c_spec_IsCracker c) ?_
 rintro r S ⟨rfl,rfl⟩
 refine p_ rfl (L_not rfl rfl) ?_
 refine xmv ?_
 refine EOps_split 21 (b:=_) rfl (fun hg21=>?_) (fun hg21=>?_)
 ·refine s_ rfl ?_
  refine s_ rfl ?_
  refine s_ rfl ?_
  refine p_ rfl (L_pick rfl rfl) ?_
  refine EOps_nil ?_
  refine E_cond rfl (fun hc25=>?_) (fun hc25=>?_)
  ·have hk : selK c r = false := by
    simp only [selK]
    simp_all
   have hcc:selC c r=c∧selLo c r=0∧selHi c r=0∧selN c r=0:=by simp [selC,selLo,selHi,selN,hk]
   refine E_seq ?_
   refine e_tidy_A37_2 [0,1,2,3,4,5,6,7,25] ?_
   refine E_region' (L:=[0,1,2,3,4,5]) rfl ?_
   refine l_ rfl (L_load rfl (xb0 ty_27)) ?_
   refine x_call rfl rfl rfl rfl rfl ca_84 (c_spec_l4Copy c hb) ?_
   rintro r S ⟨rfl,rfl⟩
   refine EOps_go rfl rfl (EOp_store rfl rfl rfl (xb1 ty_27) ?_)
   refine xas ?_
   refine xas ?_
   refine xas ?_
   refine EOps_nil ?_
   refine E_ret ?_
   refine⟨_,[3,4,5],rfl,rfl,?_,?_⟩
   ·rw [hcc.1,hcc.2.1,hcc.2.2.1,hcc.2.2.2];rfl
   rw [hcc.1];rfl
  exact Bool.noConfusion (hc25:true=false)
 refine l_ rfl (L_load rfl (xb6 ty_41)) ?_
 refine x_call rfl rfl rfl rfl rfl ca_22 (c_spec_IsRange r) ?_
 rintro r S ⟨rfl,rfl⟩
 refine p_ rfl (L_not rfl rfl) ?_
 refine p_ rfl (L_pick rfl rfl) ?_
 refine EOps_nil ?_
 refine E_cond rfl (fun hc25=>?_) (fun hc25=>?_)
 ·have hk : selK c r = false := by
   simp only [selK]
   simp_all
  have hcc:selC c r=c∧selLo c r=0∧selHi c r=0∧selN c r=0:=by simp [selC,selLo,selHi,selN,hk]
  refine E_seq ?_
  refine e_tidy_A37_2 [0,1,2,3,4,5,6,7,25] ?_
  refine E_region' (L:=[0,1,2,3,4,5]) rfl ?_
  refine l_ rfl (L_load rfl (xb0 ty_27)) ?_
  refine x_call rfl rfl rfl rfl rfl ca_84 (c_spec_l4Copy c hb) ?_
  rintro r S ⟨rfl,rfl⟩
  refine EOps_go rfl rfl (EOp_store rfl rfl rfl (xb1 ty_27) ?_)
  refine xas ?_
  refine xas ?_
  refine xas ?_
  refine EOps_nil ?_
  refine E_ret ?_
  refine⟨_,[3,4,5],rfl,rfl,?_,?_⟩
  ·rw [hcc.1,hcc.2.1,hcc.2.2.1,hcc.2.2.2];rfl
  rw [hcc.1];rfl
 have hk : selK c r = true := by
  simp only [selK]
  simp_all
 have hcv:isCrk c=true∧isRng r=true:=by simpa [selK] using hk
 have hbd:=rng_bnd hcv.2
 have hok1:=crackC_ok hcv.1 hbd.1
 have hcc:selC c r=(sel2 c r).1∧selLo c r=fpAt (sel2 c r).1.piv r.1∧selHi c r=fpAt (sel2 c r).1.piv r.2∧selN c r=((crackC c r.1).2.length:Int)+((sel2 c r).2.length:Int):=by simp [selC,selLo,selHi,selN,hk]
 simp only [sel2] at hcc
 refine E_skip ?_
 refine E_seq ?_
 refine e_tidy_A37_2 [0,1,2,3,4,5,6,7,25] ?_
 refine E_region' (L:=[0,1,2,3,4,5,6,7,8,9,10,11]) rfl ?_
 refine l_ rfl (L_load rfl (xb0 ty_27)) ?_
 refine p_ rfl (l_field rfl fo_41_0) ?_
 refine l_ rfl (L_load rfl (xb0 ty_3)) ?_
 refine x_call rfl rfl rfl rfl rfl ca_15 (c_spec_CrackAt_ok c r.1 hcv.1 hbd.1) ?_
 rintro r S ⟨rfl,rfl⟩
 generalize crackC c r.1=P at *
 obtain⟨c1,s1⟩:=P
 dsimp only at hok1 hcc
 have hok2:=crackC_ok hok1.1 hbd.2
 refine xmv ?_
 refine p_ rfl (L_extract rfl rfl) ?_
 refine p_ rfl (L_extract rfl rfl) ?_
 refine p_ rfl (L_extract rfl rfl) ?_
 refine x_alloc rfl rfl rfl rfl za_27 ?_
 refine EOps_go rfl rfl (EOp_store rfl rfl rfl (xb1 ty_27) ?_)
 refine xas ?_
 refine xas ?_
 refine EOps_nil ?_
 refine E_seq ?_
 refine e_tidy_A37_2 [0,1,2,3,4,5,6,7,8,9,25] ?_
 refine E_region' (L:=[0,1,2,3,4,5,6,7,8,9,10,11]) rfl ?_
 refine l_ rfl (L_load rfl (xb0 ty_27)) ?_
 refine p_ rfl (l_field rfl fo_41_1) ?_
 refine l_ rfl (L_load rfl (xb0 ty_3)) ?_
 refine x_call rfl rfl rfl rfl rfl ca_15 (c_spec_CrackAt_ok c1 r.2 hok1.1 hbd.2) ?_
 rintro r S ⟨rfl,rfl⟩
 generalize crackC c1 r.2=P at *
 obtain⟨c2,s2⟩:=P
 dsimp only at hok2 hcc
 have hl2:=crk_lens hok2.1
 refine xmv ?_
 refine p_ rfl (L_extract rfl rfl) ?_
 refine p_ rfl (L_extract rfl rfl) ?_
 refine p_ rfl (L_extract rfl rfl) ?_
 refine x_alloc rfl rfl rfl rfl za_27 ?_
 refine EOps_go rfl rfl (EOp_store rfl rfl rfl (xb1 ty_27) ?_)
 refine xas ?_
 refine xas ?_
 refine EOps_nil ?_
 refine E_seq ?_
 refine e_tidy_A37_2 [0,1,2,3,4,5,6,7,8,9,11,12,25] ?_
 refine E_region' (L:=[0,1,2,3,4,5,6,7,8]) rfl ?_
 refine l_ rfl (L_load rfl (xb0 ty_27)) ?_
 refine p_ rfl (l_field rfl fo_41_0) ?_
 refine l_ rfl (L_load rfl (xb0 ty_3)) ?_
 refine x_call rfl rfl rfl rfl rfl ca_85 (c_spec_FindPivot c2 r.1 (by omega)) ?_
 rintro r S ⟨rfl,rfl⟩
 refine xmv ?_
 refine p_ rfl (L_extract rfl rfl) ?_
 refine p_ rfl (L_extract rfl rfl) ?_
 refine xas ?_
 refine xas ?_
 refine EOps_nil ?_
 refine E_seq ?_
 refine e_tidy_A37_2 [0,1,2,3,4,5,6,7,8,9,11,12,14,25] ?_
 refine E_region' (L:=[0,1,2,3,4,5,6,7,8]) rfl ?_
 refine l_ rfl (L_load rfl (xb0 ty_27)) ?_
 refine p_ rfl (l_field rfl fo_41_1) ?_
 refine l_ rfl (L_load rfl (xb0 ty_3)) ?_
 refine x_call rfl rfl rfl rfl rfl ca_85 (c_spec_FindPivot c2 r.2 (by omega)) ?_
 rintro r S ⟨rfl,rfl⟩
 refine xmv ?_
 refine p_ rfl (L_extract rfl rfl) ?_
 refine p_ rfl (L_extract rfl rfl) ?_
 refine xas ?_
 refine xas ?_
 refine EOps_nil ?_
 refine E_seq ?_
 refine E_region' (L:=[0,1,2,3,4,5,6,7,8,9,10,11]) rfl ?_
 refine l_ rfl (L_load rfl (xb0 ty_27)) ?_
 refine xmv ?_
 refine xmv ?_
 refine xmv ?_
 refine p_ rfl (l_len rfl sl_35) ?_
 refine xmv ?_
 refine p_ rfl (l_len rfl sl_35) ?_
 refine p_ rfl xb2 ?_
 refine EOps_go rfl rfl (EOp_store rfl rfl rfl (xb1 ty_27) ?_)
 refine xas ?_
 refine xas ?_
 refine xas ?_
 refine EOps_nil ?_
 refine E_ret ?_
 refine⟨_,[8,9,10],rfl,rfl,?_,?_⟩
 ·rw [hcc.1,hcc.2.1,hcc.2.2.1,hcc.2.2.2];rfl
 rw [hcc.1];rfl

end Go.Proofs.Ytcepgfcolmdnoaa.E
