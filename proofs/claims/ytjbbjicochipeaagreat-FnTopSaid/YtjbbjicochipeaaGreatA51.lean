/- Walks through functions, by program out of the session's annotations. -/
import Derived.Test.YtjbbjicochipeaaGreatA42
namespace Go.Proofs.YtjbbjicochipeaaGreat.E
open Go Go.RowKit Go.Proofs
set_option linter.unusedVariables false
set_option linter.unusedSimpArgs false

def inR (r:Int × Int) (v:Int):Bool:=isRng r && decide (r.1≤v) && decide (v<r.2)

set_option maxRecDepth 20000 in
set_option maxHeartbeats 2000000 in
theorem c_spec_InRange (r : Int × Int) (v : Int) : EFn Tryz.prog 43 [.agg [.sc (.int .i64 r.1), .sc (.int .i64 r.2)], .c (.sc (.int .i64 v))] [] (fun y S => y = .c (.sc (.bool (inR r v))) ∧ S = []) := by
  refine E_fn Tryz.func43 rfl (Nat.le_of_ble_eq_true rfl) ?_
  refine E_seq ?_
  refine E_region' (L:=[0,1]) rfl ?_
  refine x_box rfl rfl rfl rfl rfl ?_
  refine xas ?_
  refine EOps_nil ?_
  refine E_seq ?_
  refine E_region' (L:=[0,1,2,3,4,5,6,7,8,9,10,11]) rfl ?_
  refine l_ rfl (L_load rfl (xb0 ty_49)) ?_
  refine x_call rfl rfl rfl rfl rfl ca_57 (c_spec_IsRange r) ?_
  rintro r S ⟨rfl,rfl⟩
  refine xmv ?_
  refine EOps_split 7 (b:=_) rfl (fun hg7=>?_) (fun hg7=>?_)
  · have hrb : -1000 ≤ r.1 ∧ r.1 ≤ r.2 ∧ r.2 ≤ 1000 := by
      have h1:isRng r=true:=hg7
      simp only [isRng,Bool.and_eq_true,decide_eq_true_eq] at h1
      omega
    refine xmv ?_
    refine p_ rfl (l_field rfl fo_49_0) ?_
    refine l_ rfl (L_load rfl (xb0 ty_3)) ?_
    refine p_ rfl (l_field rfl fo_49_1) ?_
    refine l_ rfl (L_load rfl (xb0 ty_3)) ?_
    refine p_ rfl xb6 ?_
    refine x_call rfl rfl rfl rfl rfl ca_56 (c_spec_l1In v r.1 (r.2 - 1)) ?_
    rintro r S ⟨rfl,rfl⟩
    refine p_ rfl (L_pick rfl rfl) ?_
    refine xas ?_
    refine EOps_nil ?_
    refine E_ret ?_
    refine⟨_,[],rfl,rfl,bool_eq ?_,rfl⟩
    first
      | (have hg7' : isRng r = true := hg7
         simp only [inR,isIn,hg7',Bool.true_and]
         rw [Bool.eq_iff_iff];simp;omega)
      | (have hg7' : isRng r = false := hg7
         simp only [inR,hg7',Bool.false_and];done)
  refine s_ rfl ?_
  refine s_ rfl ?_
  refine s_ rfl ?_
  refine s_ rfl ?_
  refine s_ rfl ?_
  refine s_ rfl ?_
  refine s_ rfl ?_
  refine p_ rfl (L_pick rfl rfl) ?_
  refine xas ?_
  refine EOps_nil ?_
  refine E_ret ?_
  refine⟨_,[],rfl,rfl,bool_eq ?_,rfl⟩
  first
    | (have hg7' : isRng r = true := hg7
       simp only [inR,isIn,hg7',Bool.true_and]
       rw [Bool.eq_iff_iff];simp;omega)
    | (have hg7' : isRng r = false := hg7
       simp only [inR,hg7',Bool.false_and];done)

end Go.Proofs.YtjbbjicochipeaaGreat.E
