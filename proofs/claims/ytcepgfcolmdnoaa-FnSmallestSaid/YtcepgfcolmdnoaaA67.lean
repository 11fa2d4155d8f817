/- Walks through functions, by program out of the session's annotations. -/
import Derived.Test.YtcepgfcolmdnoaaA63
namespace Go.Proofs.Ytcepgfcolmdnoaa.E
open Go Go.RowKit Go.Proofs
set_option linter.unusedVariables false
set_option linter.unusedSimpArgs false

/-- The value at a position. -/
def kvK (c:Crk) (k:Int):Bool:=isCrk c && decide (0≤k) && decide (k<c.vals.length)
def kvC (c:Crk) (k:Int):Crk:=if kvK c k=true then cpC c (k+1) else c
def kvV (c:Crk) (k:Int):Int:=if kvK c k=true then (smL c (k+1)).getD k.toNat 0 else 0
theorem kvK_parts {c : Crk} {k : Int} (h : kvK c k = true) : isCrk c = true ∧ 0 ≤ k ∧ k < c.vals.length := by
 simp only [kvK,Bool.and_eq_true,decide_eq_true_eq] at h
 exact⟨h.1.1,h.1.2,h.2⟩
set_option maxRecDepth 20000 in
set_option maxHeartbeats 4000000 in
theorem c_impl_KthValue (c : Crk) (k : Int) (hb : c.vals.length ≤ 1048576 ∧ c.rows.length ≤ 1048576 ∧ c.piv.length ≤ 1048576) : EFn Try.prog 56 [.agg (crkC c), .c (.sc (.int .i64 k))] [] (fun r S => r = .tup [(true, crkO 0 (kvC c k)), (false, [.sc (.int .i64 (kvV c k))]), (false, [.sc (.bool (kvK c k))])] ∧ S = crkR 3 129 (kvC c k)) := by
 refine E_fn Try.func56 rfl (Nat.le_of_ble_eq_true rfl) ?_
 have hil:=ints_len c.vals
 refine E_seq ?_
 refine E_region' (L:=[0,1,2,3]) rfl ?_
 refine x_box rfl rfl rfl rfl rfl ?_
 refine x_alloc rfl rfl rfl rfl za_27 ?_
 refine xas ?_
 refine xas ?_
 refine EOps_nil ?_
 refine E_seq ?_
 refine E_seq ?_
 refine e_tidy_A37_2 [0,1,2,4,5,6] ?_
 refine E_region' (L:=[0,1,2,3,4,5,6,7,8,9,10,11,12,13]) rfl ?_
 refine xmv ?_
 refine p_ rfl (L_bin rfl rfl rfl rfl) ?_
 refine xmv ?_
 refine EOps_split 11 (b:=_) rfl (fun hg11=>?_) (fun hg11=>?_)
 ·refine s_ rfl ?_
  refine s_ rfl ?_
  refine s_ rfl ?_
  refine s_ rfl ?_
  refine s_ rfl ?_
  refine p_ rfl (L_pick rfl rfl) ?_
  refine xmv ?_
  refine s_ rfl ?_
  refine s_ rfl ?_
  refine s_ rfl ?_
  refine p_ rfl (L_pick rfl rfl) ?_
  refine EOps_nil ?_
  refine E_cond rfl (fun hc22=>?_) (fun hc22=>?_)
  ·have hK : kvK c k = false := by
    cases hK:kvK c k
    ·rfl
    exfalso
    obtain⟨q1,q2,q3⟩:=kvK_parts hK
    first
     | (simp at hg11;omega)
     | (simp [ints_len] at hg18;omega)
     | (rw [q1] at hc22;exact Bool.noConfusion hc22)
   have hC:kvC c k=c:=by rw [kvC,hK];rfl
   have hV:kvV c k=0:=by rw [kvV,hK];rfl
   refine E_seq ?_
   refine e_tidy_A37_2 [0,1,2,4,5,6,22] ?_
   refine E_region' (L:=[0,1,2,3,4]) rfl ?_
   refine l_ rfl (L_load rfl (xb0 ty_27)) ?_
   refine x_call rfl rfl rfl rfl rfl ca_95 (c_impl_copyCracker c hb) ?_
   rintro r S ⟨rfl,rfl⟩
   refine EOps_go rfl rfl (EOp_store rfl rfl rfl (xb1 ty_27) ?_)
   refine xas ?_
   refine xas ?_
   refine EOps_nil ?_
   refine E_ret ?_
   rw [hC,hV,hK]
   exact⟨_,[2,3,4],rfl,rfl,rfl,rfl⟩
  exact Bool.noConfusion (hc22:true=false)
 refine xmv ?_
 refine p_ rfl (l_field rfl fo_27_0) ?_
 refine l_ rfl (L_load rfl (xb0 ty_24)) ?_
 refine p_ rfl (l_len rfl sl_24) ?_
 refine p_ rfl (L_bin rfl rfl rfl rfl) ?_
 refine p_ rfl (L_pick rfl rfl) ?_
 refine xmv ?_
 refine EOps_split 18 (b:=_) rfl (fun hg18=>?_) (fun hg18=>?_)
 ·refine s_ rfl ?_
  refine s_ rfl ?_
  refine s_ rfl ?_
  refine p_ rfl (L_pick rfl rfl) ?_
  refine EOps_nil ?_
  refine E_cond rfl (fun hc22=>?_) (fun hc22=>?_)
  ·have hK : kvK c k = false := by
    cases hK:kvK c k
    ·rfl
    exfalso
    obtain⟨q1,q2,q3⟩:=kvK_parts hK
    first
     | (simp at hg11;omega)
     | (simp [ints_len] at hg18;omega)
     | (rw [q1] at hc22;exact Bool.noConfusion hc22)
   have hC:kvC c k=c:=by rw [kvC,hK];rfl
   have hV:kvV c k=0:=by rw [kvV,hK];rfl
   refine E_seq ?_
   refine e_tidy_A37_2 [0,1,2,4,5,6,22] ?_
   refine E_region' (L:=[0,1,2,3,4]) rfl ?_
   refine l_ rfl (L_load rfl (xb0 ty_27)) ?_
   refine x_call rfl rfl rfl rfl rfl ca_95 (c_impl_copyCracker c hb) ?_
   rintro r S ⟨rfl,rfl⟩
   refine EOps_go rfl rfl (EOp_store rfl rfl rfl (xb1 ty_27) ?_)
   refine xas ?_
   refine xas ?_
   refine EOps_nil ?_
   refine E_ret ?_
   rw [hC,hV,hK]
   exact⟨_,[2,3,4],rfl,rfl,rfl,rfl⟩
  exact Bool.noConfusion (hc22:true=false)
 refine l_ rfl (L_load rfl (xb5 ty_27)) ?_
 refine x_call rfl rfl rfl rfl rfl ca_28 (c_impl_IsCracker c) ?_
 rintro r S ⟨rfl,rfl⟩
 refine p_ rfl (L_not rfl rfl) ?_
 refine p_ rfl (L_pick rfl rfl) ?_
 refine EOps_nil ?_
 refine E_cond rfl (fun hc22=>?_) (fun hc22=>?_)
 ·have hK : kvK c k = false := by
   cases hK:kvK c k
   ·rfl
   exfalso
   obtain⟨q1,q2,q3⟩:=kvK_parts hK
   first
    | (simp at hg11;omega)
    | (simp [ints_len] at hg18;omega)
    | (rw [q1] at hc22;exact Bool.noConfusion hc22)
  have hC:kvC c k=c:=by rw [kvC,hK];rfl
  have hV:kvV c k=0:=by rw [kvV,hK];rfl
  refine E_seq ?_
  refine e_tidy_A37_2 [0,1,2,4,5,6,22] ?_
  refine E_region' (L:=[0,1,2,3,4]) rfl ?_
  refine l_ rfl (L_load rfl (xb0 ty_27)) ?_
  refine x_call rfl rfl rfl rfl rfl ca_95 (c_impl_copyCracker c hb) ?_
  rintro r S ⟨rfl,rfl⟩
  refine EOps_go rfl rfl (EOp_store rfl rfl rfl (xb1 ty_27) ?_)
  refine xas ?_
  refine xas ?_
  refine EOps_nil ?_
  refine E_ret ?_
  rw [hC,hV,hK]
  exact⟨_,[2,3,4],rfl,rfl,rfl,rfl⟩
 have hcv : isCrk c = true ∧ 0 ≤ k ∧ k < c.vals.length := by
  simp at hg11
  simp [ints_len] at hg18
  exact⟨by simpa using hc22,by omega,by omega⟩
 have hK:kvK c k=true:=by simp [kvK,hcv]
 have hk1:cpK c (k+1)=true:=by simp only [cpK,Bool.and_eq_true,decide_eq_true_eq];exact⟨⟨hcv.1,by omega⟩,by omega⟩
 have hlen:=smL_len hk1
 obtain⟨x,hx⟩:=at_lt (l:=smL c (k+1)) (k:=k.toNat) (by omega)
 have hC:kvC c k=cpC c (k+1):=by rw [kvC,if_pos hK]
 have hV:kvV c k=x:=by rw [kvV,if_pos hK];exact getD_x hx
 refine E_skip ?_
 refine E_seq ?_
 refine e_tidy_A37_2 [0,1,2,4,5,6,22] ?_
 refine E_region' (L:=[0,1,2,3,4,5,6,7,8,9]) rfl ?_
 refine l_ rfl (L_load rfl (xb0 ty_27)) ?_
 refine xmv ?_
 refine p_ rfl xb2 ?_
 refine x_call rfl rfl rfl rfl rfl ca_52 (c_impl_SmallestValues c (k+1) hb) ?_
 rintro r S ⟨rfl,rfl⟩
 generalize smL c (k+1)=sm at *
 generalize cpC c (k+1)=q at *
 refine xmv ?_
 refine p_ rfl (L_extract rfl rfl) ?_
 refine p_ rfl (L_extract rfl rfl) ?_
 refine x_alloc rfl rfl rfl rfl za_27 ?_
 refine EOps_go rfl rfl (EOp_store rfl rfl rfl (xb1 ty_27) ?_)
 refine xas ?_
 refine EOps_nil ?_
 refine E_seq ?_
 refine E_drawD [6] mixed ?_
 refine d_load' 0 rfl rfl rfl rfl rfl (d_bp ty_27) ?_
 refine d_pure' 1 rfl rfl rfl (L_move rfl) ?_
 refine d_pure' 2 rfl rfl rfl (L_move rfl) ?_
 refine d_pure' 3 rfl rfl rfl (L_index rfl rfl (xii sl_24 ty_3)) ?_
 refine D_two 4 5 ?_ ?_
 ·refine d_see' 4 rfl rfl rfl (L_load rfl (xb5 ty_3)) ?_
  refine D_one 5 ?_
  refine d_store' 5 rfl rfl rfl rfl rfl rfl (s_bp ty_27) ?_
  refine d_pure' 6 rfl rfl rfl (L_assign rfl) ?_
  refine d_pure' 7 rfl rfl rfl (L_assign rfl) ?_
  refine D_done (by kernel_rfl) ?_
  refine E_ret ?_
  rw [hC,hV,hK]
  exact⟨_,[2,3,4],rfl,rfl,rfl,rfl⟩
 refine d_store' 5 rfl rfl rfl rfl rfl rfl (s_bp ty_27) ?_
 refine D_one 4 ?_
 refine d_see' 4 rfl rfl rfl (L_load rfl (xb0 ty_3)) ?_
 refine d_pure' 6 rfl rfl rfl (L_assign rfl) ?_
 refine d_pure' 7 rfl rfl rfl (L_assign rfl) ?_
 refine D_done (by kernel_rfl) ?_
 refine E_ret ?_
 rw [hC,hV,hK]
 exact⟨_,[2,3,4],rfl,rfl,rfl,rfl⟩

end Go.Proofs.Ytcepgfcolmdnoaa.E
