/- Walks through functions, by program out of the session's annotations. -/
import Derived.Test.YtjbbjicochipeaaGreatA40
import Derived.Test.YtjbbjicochipeaaGreatA06
import Derived.Test.YtjbbjicochipeaaGreatA08
import Derived.Test.YtjbbjicochipeaaGreatF3
namespace Go.Proofs.YtjbbjicochipeaaGreat.E
open Go Go.RowKit Go.Proofs
set_option linter.unusedVariables false
set_option linter.unusedSimpArgs false

def isRng (r:Int × Int):Bool:=decide (-1000≤r.1) && decide (r.1≤r.2) && decide (r.2≤1000)
theorem rng_bnd {r : Int × Int} (h : isRng r = true) : bnd r.1 = true ∧ bnd r.2 = true := by
 simp only [isRng,Bool.and_eq_true,decide_eq_true_eq] at h
 simp only [bnd,isIn,Bool.and_eq_true,decide_eq_true_eq]
 omega
theorem crackC_ok {c : Crk} {v : Int} (hc : isCrk c = true) (hv : bnd v = true) : isCrk (crackC c v).1 = true ∧ (crackC c v).2.length ≤ 64 := by
 have hl:=crk_lens hc
 have hb:=pc_bounds hc v
 cases hp:isPv c.piv v
 ·have hcr : crackC c v = (withPv (swaped c (partC c v).1) (v, (partC c v).2), (partC c v).1) := by rw [crackC, if_neg (by simp [hp])]
  obtain⟨at_,k1,k2,k3,k4,k5,k6,k7⟩:=crack_ok hc hv hp
  rw [hcr]
  exact⟨k7,by dsimp only;omega⟩
 have hcr : crackC c v = (c, []) := by rw [crackC, if_pos hp]
 rw [hcr]
 exact⟨hc,by simp⟩
theorem c_spec_CrackAt_ok (c : Crk) (v : Int) (hc : isCrk c = true) (hv : bnd v = true) : EFn Tryz.prog 117 [.agg (crkC c), .c (.sc (.int .i64 v))] [] (fun r S => r = .tup [(true, crkO 0 (crackC c v).1), (false, [.sl 3 0 (crackC c v).2.length (crackC c v).2.length]), (false, [.sc (.bool true)])] ∧ S = crkR 3 87 (crackC c v).1 ++ [.row 127 2 (pairs (crackC c v).2)]) := by
 have hl:=crk_lens hc
 have h:=c_spec_CrackAt c v ⟨by omega,by omega,by omega⟩
 have hk:crkAtK c v=true:=by simp [crkAtK,hc,hv]
 have e1:crkAtC c v=(crackC c v).1:=by simp [crkAtC,hk]
 have e2:crkAtS c v=(crackC c v).2:=by simp [crkAtS,hk]
 rw [hk,e1,e2] at h
 exact h
set_option maxRecDepth 20000 in
set_option maxHeartbeats 2000000 in
theorem c_spec_IsRange (r : Int × Int) : EFn Tryz.prog 57 [.agg [.sc (.int .i64 r.1), .sc (.int .i64 r.2)]] [] (fun y S => y = .c (.sc (.bool (isRng r))) ∧ S = []) := by
 refine E_fn Tryz.func57 rfl (Nat.le_of_ble_eq_true rfl) ?_
 refine E_seq ?_
 refine E_region' (L:=[0,1]) rfl ?_
 refine x_box rfl rfl rfl rfl rfl ?_
 refine xas ?_
 refine EOps_nil ?_
 refine E_seq ?_
 refine E_region' (L:=[0,1,2,3,4,5,6,7,8,9,10]) rfl ?_
 refine p_ rfl (l_field rfl fo_49_0) ?_
 refine l_ rfl (L_load rfl (xb0 ty_3)) ?_
 refine x_call rfl rfl rfl rfl rfl ca_56 (c_spec_l1In r.1 (-1000) 1000) ?_
 rintro r S ⟨rfl,rfl⟩
 refine xmv ?_
 refine EOps_split 6 (b:=_) rfl (fun hg6=>?_) (fun hg6=>?_)
 ·refine p_ rfl (l_field rfl fo_49_1) ?_
  refine l_ rfl (L_load rfl (xb0 ty_3)) ?_
  refine p_ rfl (l_field rfl fo_49_0) ?_
  refine l_ rfl (L_load rfl (xb0 ty_3)) ?_
  refine x_call rfl rfl rfl rfl rfl ca_56 (c_spec_l1In r.2 r.1 1000) ?_
  rintro r S ⟨rfl,rfl⟩
  refine p_ rfl (L_pick rfl rfl) ?_
  refine xas ?_
  refine EOps_nil ?_
  refine E_ret ?_
  refine⟨_,[],rfl,rfl,?_,rfl⟩
  first
   | (simp [isIn] at hg6;show AV.c (.sc (.bool (isIn r.2 r.1 1000)))=_;simp [isRng,isIn,hg6];done)
   | (simp [isIn] at hg6;show AV.c (.sc (.bool false))=_;simp [isRng];omega)
 refine s_ rfl ?_
 refine s_ rfl ?_
 refine s_ rfl ?_
 refine s_ rfl ?_
 refine s_ rfl ?_
 refine p_ rfl (L_pick rfl rfl) ?_
 refine xas ?_
 refine EOps_nil ?_
 refine E_ret ?_
 refine⟨_,[],rfl,rfl,?_,rfl⟩
 first
  | (simp [isIn] at hg6;show AV.c (.sc (.bool (isIn r.2 r.1 1000)))=_;simp [isRng,isIn,hg6];done)
  | (simp [isIn] at hg6;show AV.c (.sc (.bool false))=_;simp [isRng];omega)

set_option maxRecDepth 20000 in
set_option maxHeartbeats 2000000 in
theorem c_impl_IsRange (r : Int × Int) : EFn Tryz.prog 84 [.agg [.sc (.int .i64 r.1), .sc (.int .i64 r.2)]] [] (fun y S => y = .c (.sc (.bool (isRng r))) ∧ S = []) := by
 refine E_fn Tryz.func84 rfl (Nat.le_of_ble_eq_true rfl) ?_
 refine E_seq ?_
 refine E_region' (L:=[0,1]) rfl ?_
 refine x_box rfl rfl rfl rfl rfl ?_
 refine xas ?_
 refine EOps_nil ?_
 refine E_seq ?_
 refine E_region' (L:=[0,1,2,3,4,5,6,7,8,9,10,11,12,13,14,15]) rfl ?_
 refine p_ rfl (l_field rfl fo_49_0) ?_
 refine l_ rfl (L_load rfl (xb0 ty_3)) ?_
 refine p_ rfl (L_bin rfl rfl rfl rfl) ?_
 refine xmv ?_
 refine EOps_split 6 (b:=_) rfl (fun hg6=>?_) (fun hg6=>?_)
 ·refine p_ rfl (l_field rfl fo_49_0) ?_
  refine l_ rfl (L_load rfl (xb0 ty_3)) ?_
  refine p_ rfl (l_field rfl fo_49_1) ?_
  refine l_ rfl (L_load rfl (xb0 ty_3)) ?_
  refine p_ rfl (L_bin rfl rfl rfl rfl) ?_
  refine p_ rfl (L_pick rfl rfl) ?_
  refine xmv ?_
  refine EOps_split 13 (b:=_) rfl (fun hg13=>?_) (fun hg13=>?_)
  ·refine p_ rfl (l_field rfl fo_49_1) ?_
   refine l_ rfl (L_load rfl (xb0 ty_3)) ?_
   refine p_ rfl (L_bin rfl rfl rfl rfl) ?_
   refine p_ rfl (L_pick rfl rfl) ?_
   refine xas ?_
   refine EOps_nil ?_
   refine E_ret ?_
   refine⟨_,[],rfl,rfl,?_,rfl⟩
   simp [AV.ren,ren_sc,ren_ro,AC.ren,AC.ren.rens,ix,rv1,E.get,E.ev,E.cv,E.fill',E.fill,E.slotsOf,isRng,isIn, *] at *
   try omega
  refine s_ rfl ?_
  refine s_ rfl ?_
  refine s_ rfl ?_
  refine p_ rfl (L_pick rfl rfl) ?_
  refine xas ?_
  refine EOps_nil ?_
  refine E_ret ?_
  refine⟨_,[],rfl,rfl,?_,rfl⟩
  simp [AV.ren,ren_sc,ren_ro,AC.ren,AC.ren.rens,ix,rv1,E.get,E.ev,E.cv,E.fill',E.fill,E.slotsOf,isRng,isIn, *] at *
  try omega
 refine s_ rfl ?_
 refine s_ rfl ?_
 refine s_ rfl ?_
 refine s_ rfl ?_
 refine s_ rfl ?_
 refine p_ rfl (L_pick rfl rfl) ?_
 refine xmv ?_
 refine s_ rfl ?_
 refine s_ rfl ?_
 refine s_ rfl ?_
 refine p_ rfl (L_pick rfl rfl) ?_
 refine xas ?_
 refine EOps_nil ?_
 refine E_ret ?_
 refine⟨_,[],rfl,rfl,?_,rfl⟩
 simp [AV.ren,ren_sc,ren_ro,AC.ren,AC.ren.rens,ix,rv1,E.get,E.ev,E.cv,E.fill',E.fill,E.slotsOf,isRng,isIn, *] at *
 try omega

end Go.Proofs.YtjbbjicochipeaaGreat.E
