/- Walks through functions, by program out of the session's annotations. -/
import Derived.Test.YtcepgfcolmdnoaaA40
import Derived.Test.YtcepgfcolmdnoaaA05
import Derived.Test.YtcepgfcolmdnoaaA08
import Derived.Test.YtcepgfcolmdnoaaF3
namespace Go.Proofs.Ytcepgfcolmdnoaa.E
open Go Go.RowKit Go.Proofs
set_option linter.unusedVariables false
set_option linter.unusedSimpArgs false

def isRng (r:Int × Int):Bool:=decide (-1000≤r.1) && decide (r.1≤r.2) && decide (r.2≤1000)
set_option maxRecDepth 20000 in
set_option maxHeartbeats 2000000 in
theorem c_spec_IsRange (r : Int × Int) : EFn Try.prog 22 [.agg [.sc (.int .i64 r.1), .sc (.int .i64 r.2)]] [] (fun y S => y = .c (.sc (.bool (isRng r))) ∧ S = []) := by
 refine E_fn Try.func22 rfl (Nat.le_of_ble_eq_true rfl) ?_
 refine E_seq ?_
 refine E_region' (L:=[0,1]) rfl ?_
 refine x_box rfl rfl rfl rfl rfl ?_
 refine xas ?_
 refine EOps_nil ?_
 refine E_seq ?_
 refine E_region' (L:=[0,1,2,3,4,5,6,7,8,9,10]) rfl ?_
 refine x_pure rfl rfl rfl (l_field rfl fo_41_0) ?_
 refine x_light rfl rfl rfl (L_load rfl (xb0 ty_3)) ?_
 refine x_call rfl rfl rfl rfl rfl ca_81 (c_spec_l1In r.1 (-1000) 1000) ?_
 rintro r S ⟨rfl,rfl⟩
 refine xmv ?_
 refine EOps_split 6 (b:=_) rfl (fun hg6=>?_) (fun hg6=>?_)
 ·refine x_pure rfl rfl rfl (l_field rfl fo_41_1) ?_
  refine x_light rfl rfl rfl (L_load rfl (xb0 ty_3)) ?_
  refine x_pure rfl rfl rfl (l_field rfl fo_41_0) ?_
  refine x_light rfl rfl rfl (L_load rfl (xb0 ty_3)) ?_
  refine x_call rfl rfl rfl rfl rfl ca_81 (c_spec_l1In r.2 r.1 1000) ?_
  rintro r S ⟨rfl,rfl⟩
  refine x_pure rfl rfl rfl (L_pick rfl rfl) ?_
  refine xas ?_
  refine EOps_nil ?_
  refine E_ret ?_
  refine⟨_,[],rfl,rfl,?_,rfl⟩
  first
   | (simp [isIn] at hg6;show AV.c (.sc (.bool (isIn r.2 r.1 1000)))=_;simp [isRng,isIn,hg6];done)
   | (simp [isIn] at hg6;show AV.c (.sc (.bool false))=_;simp [isRng];omega)
 ·refine x_skip rfl rfl rfl ?_
  refine x_skip rfl rfl rfl ?_
  refine x_skip rfl rfl rfl ?_
  refine x_skip rfl rfl rfl ?_
  refine x_skip rfl rfl rfl ?_
  refine x_pure rfl rfl rfl (L_pick rfl rfl) ?_
  refine xas ?_
  refine EOps_nil ?_
  refine E_ret ?_
  refine⟨_,[],rfl,rfl,?_,rfl⟩
  first
   | (simp [isIn] at hg6;show AV.c (.sc (.bool (isIn r.2 r.1 1000)))=_;simp [isRng,isIn,hg6];done)
   | (simp [isIn] at hg6;show AV.c (.sc (.bool false))=_;simp [isRng];omega)

set_option maxRecDepth 20000 in
set_option maxHeartbeats 2000000 in
theorem c_impl_IsRange (r : Int × Int) : EFn Try.prog 94 [.agg [.sc (.int .i64 r.1), .sc (.int .i64 r.2)]] [] (fun y S => y = .c (.sc (.bool (isRng r))) ∧ S = []) := by
 refine E_fn Try.func94 rfl (Nat.le_of_ble_eq_true rfl) ?_
 refine E_seq ?_
 refine E_region' (L:=[0,1]) rfl ?_
 refine x_box rfl rfl rfl rfl rfl ?_
 refine xas ?_
 refine EOps_nil ?_
 refine E_seq ?_
 refine E_region' (L:=[0,1,2,3,4,5,6,7,8,9,10,11,12,13,14,15]) rfl ?_
 refine x_pure rfl rfl rfl (l_field rfl fo_41_0) ?_
 refine x_light rfl rfl rfl (L_load rfl (xb0 ty_3)) ?_
 refine x_pure rfl rfl rfl (L_bin rfl rfl rfl rfl) ?_
 refine xmv ?_
 refine EOps_split 6 (b:=_) rfl (fun hg6=>?_) (fun hg6=>?_)
 ·refine x_pure rfl rfl rfl (l_field rfl fo_41_0) ?_
  refine x_light rfl rfl rfl (L_load rfl (xb0 ty_3)) ?_
  refine x_pure rfl rfl rfl (l_field rfl fo_41_1) ?_
  refine x_light rfl rfl rfl (L_load rfl (xb0 ty_3)) ?_
  refine x_pure rfl rfl rfl (L_bin rfl rfl rfl rfl) ?_
  refine x_pure rfl rfl rfl (L_pick rfl rfl) ?_
  refine xmv ?_
  refine EOps_split 13 (b:=_) rfl (fun hg13=>?_) (fun hg13=>?_)
  ·refine x_pure rfl rfl rfl (l_field rfl fo_41_1) ?_
   refine x_light rfl rfl rfl (L_load rfl (xb0 ty_3)) ?_
   refine x_pure rfl rfl rfl (L_bin rfl rfl rfl rfl) ?_
   refine x_pure rfl rfl rfl (L_pick rfl rfl) ?_
   refine xas ?_
   refine EOps_nil ?_
   refine E_ret ?_
   refine⟨_,[],rfl,rfl,?_,rfl⟩
   simp [AV.ren,ren_sc,ren_ro,AC.ren,AC.ren.rens,ix,rv1,E.get,E.ev,E.cv,E.fill',E.fill,E.slotsOf,isRng,isIn, *] at *
   try omega
  ·refine x_skip rfl rfl rfl ?_
   refine x_skip rfl rfl rfl ?_
   refine x_skip rfl rfl rfl ?_
   refine x_pure rfl rfl rfl (L_pick rfl rfl) ?_
   refine xas ?_
   refine EOps_nil ?_
   refine E_ret ?_
   refine⟨_,[],rfl,rfl,?_,rfl⟩
   simp [AV.ren,ren_sc,ren_ro,AC.ren,AC.ren.rens,ix,rv1,E.get,E.ev,E.cv,E.fill',E.fill,E.slotsOf,isRng,isIn, *] at *
   try omega
 ·refine x_skip rfl rfl rfl ?_
  refine x_skip rfl rfl rfl ?_
  refine x_skip rfl rfl rfl ?_
  refine x_skip rfl rfl rfl ?_
  refine x_skip rfl rfl rfl ?_
  refine x_pure rfl rfl rfl (L_pick rfl rfl) ?_
  refine xmv ?_
  refine x_skip rfl rfl rfl ?_
  refine x_skip rfl rfl rfl ?_
  refine x_skip rfl rfl rfl ?_
  refine x_pure rfl rfl rfl (L_pick rfl rfl) ?_
  refine xas ?_
  refine EOps_nil ?_
  refine E_ret ?_
  refine⟨_,[],rfl,rfl,?_,rfl⟩
  simp [AV.ren,ren_sc,ren_ro,AC.ren,AC.ren.rens,ix,rv1,E.get,E.ev,E.cv,E.fill',E.fill,E.slotsOf,isRng,isIn, *] at *
  try omega

end Go.Proofs.Ytcepgfcolmdnoaa.E
