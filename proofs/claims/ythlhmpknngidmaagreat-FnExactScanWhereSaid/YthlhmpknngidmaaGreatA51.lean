/- Walks through functions, by program out of the session's annotations. -/
import Derived.Test.YthlhmpknngidmaaGreatA42
namespace Go.Proofs.YthlhmpknngidmaaGreat.E
open Go Go.RowKit Go.Proofs
set_option linter.unusedVariables false
set_option linter.unusedSimpArgs false

def inR (r:Int × Int) (v:Int):Bool:=isRng r && decide (r.1≤v) && decide (v<r.2)

set_option maxRecDepth 20000 in
set_option maxHeartbeats 2000000 in
theorem c_spec_InRange (r : Int × Int) (v : Int) : EFn Tryz.prog 75 [.agg [.sc (.int .i64 r.1), .sc (.int .i64 r.2)], .c (.sc (.int .i64 v))] [] (fun y S => y = .c (.sc (.bool (inR r v))) ∧ S = []) := by
  refine E_fn Tryz.func75 rfl (Nat.le_of_ble_eq_true rfl) ?_
  refine E_seq ?_
  refine E_region' (L:=[0,1]) rfl ?_
  refine x_box rfl rfl rfl rfl rfl ?_
  refine xas ?_
  refine EOps_nil ?_
  refine E_seq ?_
  refine E_region' (L:=[0,1,2,3,4,5,6,7,8,9,10,11]) rfl ?_
  refine x_light rfl rfl rfl (L_load rfl (xb0 ty_43)) ?_
  refine x_call rfl rfl rfl rfl rfl ca_82 (c_spec_IsRange r) ?_
  rintro r S ⟨rfl,rfl⟩
  refine xmv ?_
  refine EOps_split 7 (b:=_) rfl (fun hg7=>?_) (fun hg7=>?_)
  · have hrb : -1000 ≤ r.1 ∧ r.1 ≤ r.2 ∧ r.2 ≤ 1000 := by
      have h1:isRng r=true:=hg7
      simp only [isRng,Bool.and_eq_true,decide_eq_true_eq] at h1
      omega
    refine xmv ?_
    refine x_pure rfl rfl rfl (l_field rfl fo_43_0) ?_
    refine x_light rfl rfl rfl (L_load rfl (xb0 ty_3)) ?_
    refine x_pure rfl rfl rfl (l_field rfl fo_43_1) ?_
    refine x_light rfl rfl rfl (L_load rfl (xb0 ty_3)) ?_
    refine x_pure rfl rfl rfl xb5 ?_
    refine x_call rfl rfl rfl rfl rfl ca_59 (c_spec_l1In v r.1 (r.2 - 1)) ?_
    rintro r S ⟨rfl,rfl⟩
    refine x_pure rfl rfl rfl (L_pick rfl rfl) ?_
    refine xas ?_
    refine EOps_nil ?_
    refine E_ret ?_
    refine⟨_,[],rfl,rfl,bool_eq ?_,rfl⟩
    first
      | (have hg7' : isRng r = true := hg7
         simp only [inR,isIn,hg7',Bool.true_and]
         rw [Bool.eq_iff_iff];simp;omega)
      | (have hg7' : isRng r = false := hg7
         simp only [inR,hg7',Bool.false_and];done)
  · refine x_skip rfl rfl rfl ?_
    refine x_skip rfl rfl rfl ?_
    refine x_skip rfl rfl rfl ?_
    refine x_skip rfl rfl rfl ?_
    refine x_skip rfl rfl rfl ?_
    refine x_skip rfl rfl rfl ?_
    refine x_skip rfl rfl rfl ?_
    refine x_pure rfl rfl rfl (L_pick rfl rfl) ?_
    refine xas ?_
    refine EOps_nil ?_
    refine E_ret ?_
    refine⟨_,[],rfl,rfl,bool_eq ?_,rfl⟩
    first
      | (have hg7' : isRng r = true := hg7
         simp only [inR,isIn,hg7',Bool.true_and]
         rw [Bool.eq_iff_iff];simp;omega)
      | (have hg7' : isRng r = false := hg7
         simp only [inR,hg7',Bool.false_and];done)

set_option maxRecDepth 20000 in
set_option maxHeartbeats 2000000 in
theorem c_impl_InRange (r : Int × Int) (v : Int) : EFn Tryz.prog 134 [.agg [.sc (.int .i64 r.1), .sc (.int .i64 r.2)], .c (.sc (.int .i64 v))] [] (fun y S => y = .c (.sc (.bool (inR r v))) ∧ S = []) := by
  refine E_fn Tryz.func134 rfl (Nat.le_of_ble_eq_true rfl) ?_
  refine E_seq ?_
  refine E_region' (L:=[0,1]) rfl ?_
  refine x_box rfl rfl rfl rfl rfl ?_
  refine xas ?_
  refine EOps_nil ?_
  refine E_seq ?_
  refine E_region' (L:=[0,1,2,3,4,5,6,7,8,9,10,11,12,13,14]) rfl ?_
  refine x_light rfl rfl rfl (L_load rfl (xb0 ty_43)) ?_
  refine x_call rfl rfl rfl rfl rfl ca_85 (c_impl_IsRange r) ?_
  rintro r S ⟨rfl,rfl⟩
  refine xmv ?_
  refine EOps_split 7 (b:=_) rfl (fun hg7=>?_) (fun hg7=>?_)
  · refine x_pure rfl rfl rfl (l_field rfl fo_43_0) ?_
    refine x_light rfl rfl rfl (L_load rfl (xb0 ty_3)) ?_
    refine xmv ?_
    refine x_pure rfl rfl rfl (L_bin rfl rfl rfl rfl) ?_
    refine x_pure rfl rfl rfl (L_pick rfl rfl) ?_
    refine xmv ?_
    refine EOps_split 13 (b:=_) rfl (fun hg13=>?_) (fun hg13=>?_)
    · refine xmv ?_
      refine x_pure rfl rfl rfl (l_field rfl fo_43_1) ?_
      refine x_light rfl rfl rfl (L_load rfl (xb0 ty_3)) ?_
      refine x_pure rfl rfl rfl (L_bin rfl rfl rfl rfl) ?_
      refine x_pure rfl rfl rfl (L_pick rfl rfl) ?_
      refine xas ?_
      refine EOps_nil ?_
      refine E_ret ?_
      refine⟨_,[],rfl,rfl,bool_eq ?_,rfl⟩
      first
        | (have hg7' : isRng r = false := hg7
           simp only [inR,hg7',Bool.false_and];done)
        | (have hg7' : isRng r = true := hg7
           simp only [inR,hg7',Bool.true_and]
           first
             | (simp at hg13;simp [hg13];done)
             | (simp at hg13;simp;omega))
    · refine x_skip rfl rfl rfl ?_
      refine x_skip rfl rfl rfl ?_
      refine x_skip rfl rfl rfl ?_
      refine x_skip rfl rfl rfl ?_
      refine x_pure rfl rfl rfl (L_pick rfl rfl) ?_
      refine xas ?_
      refine EOps_nil ?_
      refine E_ret ?_
      refine⟨_,[],rfl,rfl,bool_eq ?_,rfl⟩
      first
        | (have hg7' : isRng r = false := hg7
           simp only [inR,hg7',Bool.false_and];done)
        | (have hg7' : isRng r = true := hg7
           simp only [inR,hg7',Bool.true_and]
           first
             | (simp at hg13;simp [hg13];done)
             | (simp at hg13;simp;omega))
  · refine x_skip rfl rfl rfl ?_
    refine x_skip rfl rfl rfl ?_
    refine x_skip rfl rfl rfl ?_
    refine x_skip rfl rfl rfl ?_
    refine x_pure rfl rfl rfl (L_pick rfl rfl) ?_
    refine xmv ?_
    refine x_skip rfl rfl rfl ?_
    refine x_skip rfl rfl rfl ?_
    refine x_skip rfl rfl rfl ?_
    refine x_skip rfl rfl rfl ?_
    refine x_pure rfl rfl rfl (L_pick rfl rfl) ?_
    refine xas ?_
    refine EOps_nil ?_
    refine E_ret ?_
    refine⟨_,[],rfl,rfl,bool_eq ?_,rfl⟩
    first
      | (have hg7' : isRng r = false := hg7
         simp only [inR,hg7',Bool.false_and];done)
      | (have hg7' : isRng r = true := hg7
         simp only [inR,hg7',Bool.true_and]
         first
           | (simp at hg13;simp [hg13];done)
           | (simp at hg13;simp;omega))

end Go.Proofs.YthlhmpknngidmaaGreat.E
