/- Walks through functions, by program out of the session's annotations. -/
import Derived.Test.YtlodlnbhjghjoaaGreatA71
namespace Go.Proofs.YtlodlnbhjghjoaaGreat.E
open Go Go.RowKit Go.Proofs
set_option linter.unusedVariables false
set_option linter.unusedSimpArgs false

set_option maxRecDepth 20000 in
set_option maxHeartbeats 4000000 in
theorem c_spec_SortSmall (c : Crk) (lim : Int) (hb : c.vals.length ≤ 1048576 ∧ c.rows.length ≤ 1048576 ∧ c.piv.length ≤ 1048576) : EFn Tryz.prog 87 [.agg (crkC c), .c (.sc (.int .i64 lim))] [] (fun r S => r = .agg (crkO 0 (smC c lim)) ∧ S = crkR 3 151 (smC c lim)) := by
  refine E_fn Tryz.func87 rfl (Nat.le_of_ble_eq_true rfl) ?_
  refine E_seq ?_
  refine E_region' (L:=[0,1]) rfl ?_
  refine x_box rfl rfl rfl rfl rfl ?_
  refine x_alloc rfl rfl rfl rfl za_49 ?_
  refine EOps_nil ?_
  refine E_seq ?_
  refine e_tidy_A37_2 [0,1,2,4] ?_
  refine E_region' (L:=[0,1,2,3]) rfl ?_
  refine l_ rfl (L_load rfl (xb0 ty_49)) ?_
  refine x_call rfl rfl rfl rfl rfl ca_99 (c_spec_l4Copy c hb) ?_
  rintro r S ⟨rfl,rfl⟩
  refine x_alloc rfl rfl rfl rfl za_49 ?_
  refine EOps_go rfl rfl (EOp_store rfl rfl rfl (xb1 ty_49) ?_)
  refine EOps_nil ?_
  refine E_seq ?_
  refine E_region' (L:=[0]) rfl ?_
  refine xas ?_
  refine EOps_nil ?_
  refine E_seq ?_
  refine e_tidy_A37_2 [0,1,2,4,5,6] ?_
  refine E_region' (L:=[0,1,2]) rfl ?_
  refine l_ rfl (L_load rfl (xb0 ty_49)) ?_
  refine x_call rfl rfl rfl rfl rfl ca_164 (c_spec_l4Ends c (by omega)) ?_
  rintro r S ⟨rfl,rfl⟩
  refine xas ?_
  refine EOps_nil ?_
  refine E_seq ?_
  refine E_seq ?_
  refine E_region' (L:=[0]) rfl ?_
  refine xas ?_
  refine EOps_nil ?_
  refine E_block ?_
  refine e_for_A37_3 (α:=Nat) [0,1,2,4,5,7] (fun k=>[(8,.c (.sc (.int .i64 (k)))),(6,.c (.sc (.int .i64 ((lastK c k)))))]) (fun k=>[.box (crkC c),.box [.sc (.slice none 0 0),.sc (.slice none 0 0),.sc (.slice none 0 0)],.row 3 1 (ints (sgN (smF lim) c k).vals),.row 3 1 (ints (sgN (smF lim) c k).rows),.row 151 2 (pairs c.piv),.box (crkO 2 c),.row 3 1 (ints (endsL c))]) (fun k=>k≤c.piv.length+1∧(0<k→isCrk c=true)) (fun k=>c.piv.length+1 - k) (0) ?_ (rfl) ⟨.inr rfl,.inr (int_eq (by simp [lastK])),trivial⟩ ?_
  · exact⟨Nat.zero_le _,fun h=>absurd h (by omega)⟩
  rintro k ⟨hk,hcr⟩
  have hel:(ints (endsL c)).length=c.piv.length+1:=by rw [ints_len,endsL_len]
  refine E_seq ?_
  refine E_seq ?_
  refine e_tidy_A37_2 [0,1,2,4,5,6,7,8,20,30] ?_
  refine E_region' (L:=[0,1,2,3,4,5,6,7]) rfl ?_
  refine xmv ?_
  refine xmv ?_
  refine p_ rfl (l_len rfl sl_22) ?_
  refine p_ rfl (L_bin rfl rfl rfl rfl) ?_
  refine xmv ?_
  refine EOps_split 17 (b:=_) rfl (fun hg17=>?_) (fun hg17=>?_)
  · have hk1 : k ≤ c.piv.length := by simp at hg17; omega
    refine l_ rfl (L_load rfl (xb0 ty_49)) ?_
    refine x_call rfl rfl rfl rfl rfl ca_39 (c_spec_IsCracker c) ?_
    rintro r S ⟨rfl,rfl⟩
    refine p_ rfl (L_pick rfl rfl) ?_
    refine EOps_nil ?_
    refine E_cond rfl (fun hc20=>?_) (fun hc20=>?_)
    · have hc : isCrk c = true := hc20
      have hl:=crk_lens hc
      have hbd:=last_bounds hc hk1
      have hx:=endsL_at (c:=c) hk1
      have hsame:=sgN_len (f:=smF lim) hc k (by omega)
      obtain⟨a,ha⟩:∃ a:Nat,lastK c k=a:=⟨_,(Int.toNat_of_nonneg hbd.1).symm⟩
      obtain⟨z,hz⟩:∃ z:Nat,zOf c.piv c.vals.length k=z:=⟨(zOf c.piv c.vals.length k).toNat,(Int.toNat_of_nonneg (by omega)).symm⟩
      have hst:sgN (smF lim) c (k+1)=sgStep (smF lim) (sgN (smF lim) c k) ((a:Int),(z:Int)):=by rw [sgN,ha,hz]
      rw [hz] at hx
      rw [ha,hz] at hbd
      rw [ha]
      generalize sgN (smF lim) c k=s at *
      refine E_skip ?_
      refine E_seq ?_
      refine E_block ?_
      refine E_seq ?_
      refine E_seq ?_
      refine E_region' (L:=[0,1,2,3,4,5,6,7]) rfl ?_
      refine xmv ?_
      refine xmv ?_
      refine p_ rfl (L_index rfl rfl (xii sl_22 ty_3)) ?_
      refine l_ rfl (L_load rfl (xb0 ty_3)) ?_
      refine xmv ?_
      refine p_ rfl xb5 ?_
      refine xmv ?_
      refine p_ rfl (L_bin rfl rfl rfl rfl) ?_
      refine EOps_nil ?_
      refine E_cond rfl (fun hc30=>?_) (fun hc30=>?_)
      · have hf : smF lim ((a : Int), (z : Int)) = true := hc30
        have hst1:sgN (smF lim) c (k+1)=segC s a z:=hst.trans (sgStep_t hf)
        refine e_tidy_A37_2 [0,1,2,4,5,6,7,8,20,30] ?_
        refine E_region' (L:=[0,1,2,3,4,5]) rfl ?_
        refine xmv ?_
        refine xmv ?_
        refine xmv ?_
        refine p_ rfl (L_index rfl rfl (xii sl_22 ty_3)) ?_
        refine l_ rfl (L_load rfl (xb0 ty_3)) ?_
        refine x_frame [5,2,3,4] rfl rfl rfl rfl rfl ca_165 rfl (c_l15SortAt hsame a z hl.2.1 (by omega) (by omega) hl.1) ?_
        rintro r S ⟨r0,S0,⟨rfl,rfl⟩,rfl,rfl⟩
        refine EOps_nil ?_
        refine E_region' (L:=[0,1,2,3,4]) rfl ?_
        refine xmv ?_
        refine xmv ?_
        refine p_ rfl (L_index rfl rfl (xii sl_22 ty_3)) ?_
        refine l_ rfl (L_load rfl (xb0 ty_3)) ?_
        refine xas ?_
        refine EOps_nil ?_
        refine E_region' (L:=[0,1,2]) rfl ?_
        refine xmv ?_
        refine p_ rfl xb2 ?_
        refine xas ?_
        refine EOps_nil ?_
        refine⟨k+1,?_,?_,(by rw [hst1]<;>rfl),⟨.inr rfl,.inr (int_eq (by rw [lastK_step,hz])),trivial⟩,⟨.inr rfl,.inr rfl,.inr rfl,.inr rfl,.inr rfl,.inr rfl,trivial⟩⟩
        · first|omega|(dsimp only;omega)|(simp;omega)
        exact⟨by omega,fun _=>hc⟩
      have hf : smF lim ((a : Int), (z : Int)) = false := hc30
      have hst1:sgN (smF lim) c (k+1)=s:=hst.trans (sgStep_f hf)
      refine E_skip ?_
      refine E_region' (L:=[0,1,2,3,4]) rfl ?_
      refine xmv ?_
      refine xmv ?_
      refine p_ rfl (L_index rfl rfl (xii sl_22 ty_3)) ?_
      refine l_ rfl (L_load rfl (xb0 ty_3)) ?_
      refine xas ?_
      refine EOps_nil ?_
      refine E_region' (L:=[0,1,2]) rfl ?_
      refine xmv ?_
      refine p_ rfl xb2 ?_
      refine xas ?_
      refine EOps_nil ?_
      refine⟨k+1,?_,?_,(by rw [hst1]<;>rfl),⟨.inr rfl,.inr (int_eq (by rw [lastK_step,hz])),trivial⟩,⟨.inr rfl,.inr rfl,.inr rfl,.inr rfl,.inr rfl,.inr rfl,trivial⟩⟩
      · first|omega|(dsimp only;omega)|(simp;omega)
      exact⟨by omega,fun _=>hc⟩
    have hfin : smC c lim = sgN (smF lim) c k ∧ SameL c (sgN (smF lim) c k) := by
      first
        | (have hcc : isCrk c = false := hc20
           have : k = 0 := by
             rcases Nat.eq_zero_or_pos k with h0|h0
             · exact h0
             rw [hcr h0] at hcc;cases hcc
           subst this
           exact⟨by rw [smC,hcc];rfl,⟨rfl,rfl,rfl⟩⟩)
        | (have hcc := hcr (by omega)
           exact⟨by rw [smC,if_pos hcc,hkk],sgN_len hcc k (by omega)⟩)
    refine E_exit ?_
    refine E_seq ?_
    refine E_region' (L:=[0,1]) rfl ?_
    refine l_ rfl (L_load rfl (xb0 ty_49)) ?_
    refine EOps_go rfl rfl (EOp_store rfl rfl rfl (xb1 ty_49) ?_)
    refine EOps_nil ?_
    refine E_ret ?_
    rw [hfin.1]
    obtain⟨p1,p2,p3⟩:=hfin.2
    refine⟨_,[2,3,4],rfl,rfl,?_,?_⟩
    · simp only [crkO,p1,p2,p3];rfl
    simp only [crkR,p3];rfl
  have hkk : k = c.piv.length + 1 := by simp at hg17; omega
  refine s_ rfl ?_
  refine s_ rfl ?_
  refine p_ rfl (L_pick rfl rfl) ?_
  refine EOps_nil ?_
  refine E_cond rfl (fun hc20=>?_) (fun hc20=>?_)
  · exact Bool.noConfusion (hc20:false=true)
  have hfin : smC c lim = sgN (smF lim) c k ∧ SameL c (sgN (smF lim) c k) := by
    first
      | (have hcc : isCrk c = false := hc20
         have : k = 0 := by
           rcases Nat.eq_zero_or_pos k with h0|h0
           · exact h0
           rw [hcr h0] at hcc;cases hcc
         subst this
         exact⟨by rw [smC,hcc];rfl,⟨rfl,rfl,rfl⟩⟩)
      | (have hcc := hcr (by omega)
         exact⟨by rw [smC,if_pos hcc,hkk],sgN_len hcc k (by omega)⟩)
  refine E_exit ?_
  refine E_seq ?_
  refine E_region' (L:=[0,1]) rfl ?_
  refine l_ rfl (L_load rfl (xb0 ty_49)) ?_
  refine EOps_go rfl rfl (EOp_store rfl rfl rfl (xb1 ty_49) ?_)
  refine EOps_nil ?_
  refine E_ret ?_
  rw [hfin.1]
  obtain⟨p1,p2,p3⟩:=hfin.2
  refine⟨_,[2,3,4],rfl,rfl,?_,?_⟩
  · simp only [crkO,p1,p2,p3];rfl
  simp only [crkR,p3];rfl

set_option maxRecDepth 20000 in
set_option maxHeartbeats 4000000 in
theorem c_impl_SortSmall (c : Crk) (lim : Int) (hb : c.vals.length ≤ 1048576 ∧ c.rows.length ≤ 1048576 ∧ c.piv.length ≤ 1048576) : EFn Tryz.prog 83 [.agg (crkC c), .c (.sc (.int .i64 lim))] [] (fun r S => r = .agg (crkO 0 (smC c lim)) ∧ S = crkR 3 151 (smC c lim)) := by
 refine E_fn Tryz.func83 rfl (Nat.le_of_ble_eq_true rfl) ?_
 refine E_G (n:=0) rfl ?_
 refine G_seq ?_
 refine G_region' (L:=[0,1]) rfl ?_
 refine x_box rfl rfl rfl rfl rfl ?_
 refine x_alloc rfl rfl rfl rfl za_49 ?_
 refine EOps_nil ?_
 refine G_seq ?_
 refine g_tidy_A37_0 [0,1,2,4] ?_
 refine G_region' (L:=[0,1,2,3]) rfl ?_
 refine l_ rfl (L_load rfl (xb0 ty_49)) ?_
 refine x_call rfl rfl rfl rfl rfl ca_104 (c_impl_copyCracker c hb) ?_
 rintro r S ⟨rfl,rfl⟩
 refine x_alloc rfl rfl rfl rfl za_49 ?_
 refine EOps_go rfl rfl (EOp_store rfl rfl rfl (xb1 ty_49) ?_)
 refine EOps_nil ?_
 refine G_seq ?_
 refine G_seq ?_
 refine g_tidy_A37_0 [0,1,2,4,5] ?_
 refine G_region' (L:=[0,1,2]) rfl ?_
 refine l_ rfl (L_load rfl (xb0 ty_49)) ?_
 refine x_call rfl rfl rfl rfl rfl ca_46 (c_impl_IsCracker c) ?_
 rintro r S ⟨rfl,rfl⟩
 refine p_ rfl (L_not rfl rfl) ?_
 refine EOps_nil ?_
 refine G_cond rfl (fun hc12=>?_) (fun hc12=>?_)
 ·have hC : smC c lim = c := by
   have h1:isCrk c=false:=by simpa using hc12
   rw [smC,h1];rfl
  refine G_seq ?_
  refine G_region' (L:=[0,1]) rfl ?_
  refine l_ rfl (L_load rfl (xb0 ty_49)) ?_
  refine EOps_go rfl rfl (EOp_store rfl rfl rfl (xb1 ty_49) ?_)
  refine EOps_nil ?_
  refine G_ret ?_
  rw [hC]
  exact⟨_,[2,3,4],rfl,rfl,rfl,rfl⟩
 have hc : isCrk c = true := by simpa using hc12
 have hl:=crk_lens hc
 refine G_skip ?_
 refine G_seq ?_
 refine G_seq ?_
 refine g_tidy_A37_0 [0,1,2,4,5,12] ?_
 refine G_region' (L:=[0,1,2,3]) rfl ?_
 refine l_ rfl (L_load rfl (xb0 ty_49)) ?_
 refine x_call rfl rfl rfl rfl rfl ca_160 (c_impl_pieces c hc) ?_
 rintro r S ⟨rfl,rfl⟩
 refine p_ rfl (l_len rfl sl_173) ?_
 refine xmv ?_
 refine EOps_nil ?_
 refine G_block ?_
 refine g_forD_A37_1 (α:=Nat) [0,1,2,4,5,12,15,16] (fun k=>[(17,.c (.sc (.int .i64 (k))))]) (fun k=>[.box (crkC c),.box [.sc (.slice none 0 0),.sc (.slice none 0 0),.sc (.slice none 0 0)],.row 3 1 (ints (sgP (smF lim) c ((piecesL c).take k)).vals),.row 3 1 (ints (sgP (smF lim) c ((piecesL c).take k)).rows),.row 151 2 (pairs c.piv),.box (crkO 2 c),.row 175 2 (pairs (piecesL c))]) (fun k=>k≤(piecesL c).length) (fun k=>(piecesL c).length - k) (0) ?_ (rfl) ⟨.inr rfl,trivial⟩ ?_
 ·simp
 rintro k hk
 have hel:(pairs (piecesL c)).length=(piecesL c).length:=pairs_len _
 have hsz:=piecesN_len c (c.piv.length+1)
 have hszL:(piecesL c).length≤c.piv.length+1:=hsz
 refine G_seq ?_
 refine G_region' (L:=[0]) rfl ?_
 refine p_ rfl (L_bin rfl rfl rfl rfl) ?_
 refine EOps_nil ?_
 refine G_seq ?_
 refine G_cond rfl (fun hc18=>?_) (fun hc18=>?_)
 ·have hk1 : k < (piecesL c).length := by simpa using hc18
  obtain⟨p,hp⟩:=at_lt hk1
  have hpb:=pieces_in hc (c.piv.length+1) (Nat.le_refl _) p (List.mem_of_getElem? hp)
  obtain⟨a,b,rfl,hab,hbn⟩:=nat_pair hpb
  have hst:=sgP_step (f:=smF lim) (c:=c) hp
  have hsame:=sgP_len (f:=smF lim) hc k
  generalize sgP (smF lim) c ((piecesL c).take k)=s at *
  refine G_skip ?_
  refine G_seq ?_
  refine G_block ?_
  refine G_seq ?_
  refine G_region' (L:=[0,1,2,3]) rfl ?_
  refine p_ rfl (L_index rfl rfl (xii sl_173 ty_175)) ?_
  refine l_ rfl (L_load rfl (xb0 ty_175)) ?_
  refine x_alloc rfl rfl rfl rfl za_175 ?_
  refine EOps_go rfl rfl (EOp_store rfl rfl rfl (xb1 ty_175) ?_)
  refine EOps_nil ?_
  refine G_seq ?_
  refine G_region' (L:=[0,1,2,3,4,5,6]) rfl ?_
  refine p_ rfl (L_index rfl rfl (iav_ar ar_175 ty_3 (by decide) (by decide) rfl rfl)) ?_
  refine l_ rfl (L_load rfl (xb0 ty_3)) ?_
  refine p_ rfl (L_index rfl rfl (iav_ar ar_175 ty_3 (by decide) (by decide) rfl rfl)) ?_
  refine l_ rfl (L_load rfl (xb0 ty_3)) ?_
  refine p_ rfl xb5 ?_
  refine xmv ?_
  refine p_ rfl (L_bin rfl rfl rfl rfl) ?_
  refine EOps_nil ?_
  refine G_cond rfl (fun hc27=>?_) (fun hc27=>?_)
  ·have hf : smF lim ((a : Int), (b : Int)) = true := hc27
   have hst1:sgP (smF lim) c ((piecesL c).take (k+1))=segC s a b:=hst.trans (sgStep_t hf)
   refine g_tidy_A37_0 [0,1,2,4,5,7,12,15,16,17,18,27] ?_
   refine G_region' (L:=[0,1,2,3,4]) rfl ?_
   refine p_ rfl (L_index rfl rfl (iav_ar ar_175 ty_3 (by decide) (by decide) rfl rfl)) ?_
   refine l_ rfl (L_load rfl (xb0 ty_3)) ?_
   refine p_ rfl (L_index rfl rfl (iav_ar ar_175 ty_3 (by decide) (by decide) rfl rfl)) ?_
   refine l_ rfl (L_load rfl (xb0 ty_3)) ?_
   refine x_frame [5,2,3,4] rfl rfl rfl rfl rfl ca_161 rfl (c_sortAt hsame a b hl.2.1 hab hbn hl.1) ?_
   rintro r S ⟨r0,S0,⟨rfl,rfl⟩,rfl,rfl⟩
   refine EOps_nil ?_
   refine G_region' (L:=[0,1]) rfl ?_
   refine p_ rfl xb2 ?_
   refine xmv ?_
   refine EOps_nil ?_
   refine⟨[0,1,2,3,4,5,6],rfl,k+1,?_,?_,(by rw [hst1]<;>rfl),⟨.inr rfl,trivial⟩,⟨.inr rfl,.inr rfl,.inr rfl,.inr rfl,.inr rfl,.inr rfl,.inr rfl,.inr rfl,trivial⟩⟩
   ·first|omega|(dsimp only;omega)|(simp;omega)
   first|trivial|omega|(dsimp only;omega)|(simp;omega)
  have hf : smF lim ((a : Int), (b : Int)) = false := hc27
  have hst1:sgP (smF lim) c ((piecesL c).take (k+1))=s:=hst.trans (sgStep_f hf)
  refine G_skip ?_
  refine G_region' (L:=[0,1]) rfl ?_
  refine p_ rfl xb2 ?_
  refine xmv ?_
  refine EOps_nil ?_
  refine⟨[0,1,2,3,4,5,6],rfl,k+1,?_,?_,(by rw [hst1]<;>rfl),⟨.inr rfl,trivial⟩,⟨.inr rfl,.inr rfl,.inr rfl,.inr rfl,.inr rfl,.inr rfl,.inr rfl,.inr rfl,trivial⟩⟩
  ·first|omega|(dsimp only;omega)|(simp;omega)
  first|trivial|omega|(dsimp only;omega)|(simp;omega)
 have hkk : (piecesL c).length ≤ k := by simpa using hc18
 have hfin : smC c lim = sgP (smF lim) c ((piecesL c).take k) := by
  rw [List.take_of_length_le hkk,smC,if_pos hc];exact sgN_pieces hc _ (Nat.le_refl _)
 have hsame:=sgP_len (f:=smF lim) hc k
 refine G_exit ?_
 refine G_seq ?_
 refine G_region' (L:=[0,1]) rfl ?_
 refine l_ rfl (L_load rfl (xb0 ty_49)) ?_
 refine EOps_go rfl rfl (EOp_store rfl rfl rfl (xb1 ty_49) ?_)
 refine EOps_nil ?_
 refine G_ret ?_
 rw [hfin]
 obtain⟨p1,p2,p3⟩:=hsame
 refine⟨_,[2,3,4],rfl,rfl,?_,?_⟩
 ·simp only [crkO,p1,p2,p3];rfl
 simp only [crkR,p3];rfl

end Go.Proofs.YtlodlnbhjghjoaaGreat.E
