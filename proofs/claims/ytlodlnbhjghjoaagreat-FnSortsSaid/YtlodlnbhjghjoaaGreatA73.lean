/- Walks through functions, by program out of the session's annotations. -/
import Derived.Test.YtlodlnbhjghjoaaGreatA71
import Derived.Test.YtlodlnbhjghjoaaGreatF4
namespace Go.Proofs.YtlodlnbhjghjoaaGreat.E
open Go Go.RowKit Go.Proofs
set_option linter.unusedVariables false
set_option linter.unusedSimpArgs false

set_option maxRecDepth 20000 in
set_option maxHeartbeats 8000000 in
theorem c_spec_SortedRange (c : Crk) (r : Int × Int) (hb : c.vals.length ≤ 1048576 ∧ c.rows.length ≤ 1048576 ∧ c.piv.length ≤ 1048576) : EFn Tryz.prog 79 [.agg (crkC c), .agg [.sc (.int .i64 r.1), .sc (.int .i64 r.2)]] [] (fun y S => y = .tup [(true, crkO 0 (srC c r)), (false, [.sl 3 0 (srL c r).length (srL c r).length])] ∧ S = crkR 3 151 (srC c r) ++ [.row 3 1 (ints (srL c r))]) := by
  refine E_fn Tryz.func79 rfl (Nat.le_of_ble_eq_true rfl) ?_
  refine E_G (n:=0) rfl ?_
  have hin:=sel_in (c:=c) (r:=r)
  have hnn:=sel_nn (c:=c) (r:=r)
  have hqle:=sel_le (c:=c) (r:=r) hb
  have hsame0:=srC_same (c:=c) (r:=r)
  have hsr:srC c r=if selK c r=true then sgN (srF (selLo c r) (selHi c r)) (selC c r) ((selC c r).piv.length+1) else selC c r:=rfl
  have hsl:srL c r=if selK c r=true then cutV (srC c r).vals (selLo c r) (selHi c r) else []:=rfl
  generalize srL c r=sl at *
  generalize srC c r=sc at *
  refine G_seq ?_
  refine G_region' (L:=[0,1,2,3]) rfl ?_
  refine x_box rfl rfl rfl rfl rfl ?_
  refine x_box rfl rfl rfl rfl rfl ?_
  refine x_alloc rfl rfl rfl rfl za_49 ?_
  refine xas ?_
  refine EOps_nil ?_
  refine G_seq ?_
  refine g_tidy_A37_0 [0,1,2,3,4,5] ?_
  refine G_region' (L:=[0,1,2,3,4,5,6,7,8,9,10,11,12]) rfl ?_
  refine l_ rfl (L_load rfl (xb0 ty_49)) ?_
  refine l_ rfl (L_load rfl (xb0 ty_53)) ?_
  refine x_call rfl rfl rfl rfl rfl ca_163 (c_spec_SelectRange c r hb) ?_
  rintro r S ⟨rfl,rfl⟩
  generalize selC c r=q at *
  generalize selLo c r=lo at *
  generalize selHi c r=hi at *
  generalize selN c r=nn at *
  obtain⟨u,rfl⟩:∃ u:Nat,lo=u:=⟨_,(Int.toNat_of_nonneg hnn.1).symm⟩
  obtain⟨w,rfl⟩:∃ w:Nat,hi=w:=⟨_,(Int.toNat_of_nonneg hnn.2).symm⟩
  refine xmv ?_
  refine p_ rfl (L_extract rfl rfl) ?_
  refine p_ rfl (L_extract rfl rfl) ?_
  refine p_ rfl (L_extract rfl rfl) ?_
  refine p_ rfl (L_extract rfl rfl) ?_
  refine x_alloc rfl rfl rfl rfl za_49 ?_
  refine EOps_go rfl rfl (EOp_store rfl rfl rfl (xb1 ty_49) ?_)
  refine xas ?_
  refine xas ?_
  refine xas ?_
  refine EOps_nil ?_
  refine G_seq ?_
  refine G_seq ?_
  refine g_tidy_A37_0 [0,1,2,3,4,5,6,7,8] ?_
  refine G_region' (L:=[0,1,2,3,4,5,6,7]) rfl ?_
  refine l_ rfl (L_load rfl (xb0 ty_49)) ?_
  refine x_call rfl rfl rfl rfl rfl ca_39 (c_spec_IsCracker c) ?_
  rintro r S ⟨rfl,rfl⟩
  refine p_ rfl (L_not rfl rfl) ?_
  refine xmv ?_
  refine EOps_split 24 (b:=_) rfl (fun hg24=>?_) (fun hg24=>?_)
  · refine s_ rfl ?_
    refine s_ rfl ?_
    refine s_ rfl ?_
    refine p_ rfl (L_pick rfl rfl) ?_
    refine EOps_nil ?_
    refine G_cond rfl (fun hc28=>?_) (fun hc28=>?_)
    · have hk : selK c r = false := by
        cases hk:selK c r
        · rfl
        exfalso
        have hcv:isCrk c=true∧isRng r=true:=by simpa [selK] using hk
        first
          | (rw [hcv.1] at hg24;exact Bool.noConfusion hg24)
          | (rw [hcv.2] at hc28;exact Bool.noConfusion hc28)
      rw [hk] at hsr hsl
      obtain rfl:sc=q:=hsr
      obtain rfl:sl=[]:=hsl
      refine G_seq ?_
      refine G_region' (L:=[0,1,2,3]) rfl ?_
      refine l_ rfl (L_load rfl (xb0 ty_49)) ?_
      refine EOps_go rfl rfl (Heavy.op (H_bslice rfl rfl (by decide) sl_22 ty_3 za_3 ⟨rfl,by decide⟩ (by decide) rfl rfl rfl rfl ?_))
      refine EOps_go rfl rfl (EOp_store rfl rfl rfl (xb1 ty_49) ?_)
      refine xas ?_
      refine EOps_nil ?_
      refine G_ret ?_
      exact⟨_,[3,4,5,7],rfl,rfl,rfl,rfl⟩
    exact Bool.noConfusion (hc28:true=false)
  refine l_ rfl (L_load rfl (xb3 ty_53)) ?_
  refine x_call rfl rfl rfl rfl rfl ca_41 (c_spec_IsRange r) ?_
  rintro r S ⟨rfl,rfl⟩
  refine p_ rfl (L_not rfl rfl) ?_
  refine p_ rfl (L_pick rfl rfl) ?_
  refine EOps_nil ?_
  refine G_cond rfl (fun hc28=>?_) (fun hc28=>?_)
  · have hk : selK c r = false := by
      cases hk:selK c r
      · rfl
      exfalso
      have hcv:isCrk c=true∧isRng r=true:=by simpa [selK] using hk
      first
        | (rw [hcv.1] at hg24;exact Bool.noConfusion hg24)
        | (rw [hcv.2] at hc28;exact Bool.noConfusion hc28)
    rw [hk] at hsr hsl
    obtain rfl:sc=q:=hsr
    obtain rfl:sl=[]:=hsl
    refine G_seq ?_
    refine G_region' (L:=[0,1,2,3]) rfl ?_
    refine l_ rfl (L_load rfl (xb0 ty_49)) ?_
    refine EOps_go rfl rfl (Heavy.op (H_bslice rfl rfl (by decide) sl_22 ty_3 za_3 ⟨rfl,by decide⟩ (by decide) rfl rfl rfl rfl ?_))
    refine EOps_go rfl rfl (EOp_store rfl rfl rfl (xb1 ty_49) ?_)
    refine xas ?_
    refine EOps_nil ?_
    refine G_ret ?_
    exact⟨_,[3,4,5,7],rfl,rfl,rfl,rfl⟩
  have hcv : isCrk c = true ∧ isRng r = true := ⟨by simpa using hg24, by simpa using hc28⟩
  have hk:selK c r=true:=by simp [selK,hcv.1,hcv.2]
  obtain⟨hqc,h0,hab0,hbn0,_⟩:=hin hk
  rw [if_pos hk] at hsr hsl
  have hl:=crk_lens hqc
  refine G_skip ?_
  refine G_seq ?_
  refine G_region' (L:=[0]) rfl ?_
  refine xas ?_
  refine EOps_nil ?_
  refine G_seq ?_
  refine g_tidy_A37_0 [0,1,2,3,4,5,6,7,8,10,28] ?_
  refine G_region' (L:=[0,1,2]) rfl ?_
  refine l_ rfl (L_load rfl (xb0 ty_49)) ?_
  refine x_call rfl rfl rfl rfl rfl ca_164 (c_spec_l4Ends q (by omega)) ?_
  rintro r S ⟨rfl,rfl⟩
  refine xas ?_
  refine EOps_nil ?_
  refine G_seq ?_
  refine G_seq ?_
  refine G_region' (L:=[0]) rfl ?_
  refine xas ?_
  refine EOps_nil ?_
  refine G_block ?_
  refine g_forD_A37_1 (α:=Nat) [0,1,2,3,4,5,6,7,8,11,28] (fun k=>[(12,.c (.sc (.int .i64 (k)))),(10,.c (.sc (.int .i64 ((lastK q k)))))]) (fun k=>[.box (crkC c),.box [.sc (.int .i64 r.1),.sc (.int .i64 r.2)],.box [.sc (.slice none 0 0),.sc (.slice none 0 0),.sc (.slice none 0 0)],.row 3 1 (ints (sgN (srF u w) q k).vals),.row 3 1 (ints (sgN (srF u w) q k).rows),.row 151 2 (pairs q.piv),.box (crkO 3 q),.row 3 1 (ints (endsL q))]) (fun k=>k≤q.piv.length+1) (fun k=>q.piv.length+1 - k) (0) ?_ (rfl) ⟨.inr rfl,.inr (int_eq (by simp [lastK])),trivial⟩ ?_
  · simp
  rintro k hkl
  have hel:(ints (endsL q)).length=q.piv.length+1:=by rw [ints_len,endsL_len]
  refine G_seq ?_
  refine G_seq ?_
  refine G_region' (L:=[0,1,2,3]) rfl ?_
  refine xmv ?_
  refine xmv ?_
  refine p_ rfl (l_len rfl sl_22) ?_
  refine p_ rfl (L_bin rfl rfl rfl rfl) ?_
  refine EOps_nil ?_
  refine G_cond rfl (fun hc36=>?_) (fun hc36=>?_)
  · have hk1 : k ≤ q.piv.length := by simp at hc36; omega
    have hbd:=last_bounds hqc hk1
    have hx:=endsL_at (c:=q) hk1
    have hsame:=sgN_len (f:=srF u w) hqc k (by omega)
    obtain⟨a,ha⟩:∃ a:Nat,lastK q k=a:=⟨_,(Int.toNat_of_nonneg hbd.1).symm⟩
    obtain⟨z,hz⟩:∃ z:Nat,zOf q.piv q.vals.length k=z:=⟨(zOf q.piv q.vals.length k).toNat,(Int.toNat_of_nonneg (by omega)).symm⟩
    have hst:sgN (srF u w) q (k+1)=sgStep (srF u w) (sgN (srF u w) q k) ((a:Int),(z:Int)):=by rw [sgN,ha,hz]
    rw [hz] at hx
    rw [ha,hz] at hbd
    rw [ha]
    generalize sgN (srF u w) q k=s at *
    refine G_skip ?_
    refine G_seq ?_
    refine G_block ?_
    refine G_seq ?_
    refine G_seq ?_
    refine G_region' (L:=[0,1,2,3,4,5,6,7,8,9,10]) rfl ?_
    refine xmv ?_
    refine xmv ?_
    refine p_ rfl (L_bin rfl rfl rfl rfl) ?_
    refine xmv ?_
    refine EOps_split 42 (b:=_) rfl (fun hg42=>?_) (fun hg42=>?_)
    · refine xmv ?_
      refine xmv ?_
      refine p_ rfl (L_index rfl rfl (xii sl_22 ty_3)) ?_
      refine l_ rfl (L_load rfl (xb0 ty_3)) ?_
      refine xmv ?_
      refine p_ rfl (L_bin rfl rfl rfl rfl) ?_
      refine p_ rfl (L_pick rfl rfl) ?_
      refine EOps_nil ?_
      refine G_cond rfl (fun hc49=>?_) (fun hc49=>?_)
      · have hf : srF u w ((a : Int), (z : Int)) = true := by
          first
            | (simp at hg42 hc49
               simp [srF];omega)
            | (exfalso;simp at hc49;done)
        have hst1:sgN (srF u w) q (k+1)=segC s a z:=hst.trans (sgStep_t hf)
        refine g_tidy_A37_0 [0,1,2,3,4,5,6,7,8,10,11,12,28,36,49] ?_
        refine G_region' (L:=[0,1,2,3,4,5]) rfl ?_
        refine xmv ?_
        refine xmv ?_
        refine xmv ?_
        refine p_ rfl (L_index rfl rfl (xii sl_22 ty_3)) ?_
        refine l_ rfl (L_load rfl (xb0 ty_3)) ?_
        refine x_frame [6,3,4,5] rfl rfl rfl rfl rfl ca_165 rfl (c_l15SortAt hsame a z hl.2.1 (by omega) (by omega) hl.1) ?_
        rintro r S ⟨r0,S0,⟨rfl,rfl⟩,rfl,rfl⟩
        refine EOps_nil ?_
        refine G_region' (L:=[0,1,2,3,4]) rfl ?_
        refine xmv ?_
        refine xmv ?_
        refine p_ rfl (L_index rfl rfl (xii sl_22 ty_3)) ?_
        refine l_ rfl (L_load rfl (xb0 ty_3)) ?_
        refine xas ?_
        refine EOps_nil ?_
        refine G_region' (L:=[0,1,2]) rfl ?_
        refine xmv ?_
        refine p_ rfl xb2 ?_
        refine xas ?_
        refine EOps_nil ?_
        refine⟨[0,1,2,3,4,5,6,7],rfl,k+1,?_,?_,(by rw [hst1]<;>rfl),⟨.inr rfl,.inr (int_eq (by rw [lastK_step,hz])),trivial⟩,⟨.inr rfl,.inr rfl,.inr rfl,.inr rfl,.inr rfl,.inr rfl,.inr rfl,.inr rfl,.inr rfl,.inr rfl,.inr rfl,trivial⟩⟩
        · first|omega|(dsimp only;omega)|(simp;omega)
        first|trivial|omega|(dsimp only;omega)|(simp;omega)
      have hf : srF u w ((a : Int), (z : Int)) = false := by
        first
          | (simp at hg42 hc49
             simp [srF];omega)
          | (simp at hg42
             simp [srF];omega)
      have hst1:sgN (srF u w) q (k+1)=s:=hst.trans (sgStep_f hf)
      refine G_skip ?_
      refine G_region' (L:=[0,1,2,3,4]) rfl ?_
      refine xmv ?_
      refine xmv ?_
      refine p_ rfl (L_index rfl rfl (xii sl_22 ty_3)) ?_
      refine l_ rfl (L_load rfl (xb0 ty_3)) ?_
      refine xas ?_
      refine EOps_nil ?_
      refine G_region' (L:=[0,1,2]) rfl ?_
      refine xmv ?_
      refine p_ rfl xb2 ?_
      refine xas ?_
      refine EOps_nil ?_
      refine⟨[0,1,2,3,4,5,6,7],rfl,k+1,?_,?_,(by rw [hst1]<;>rfl),⟨.inr rfl,.inr (int_eq (by rw [lastK_step,hz])),trivial⟩,⟨.inr rfl,.inr rfl,.inr rfl,.inr rfl,.inr rfl,.inr rfl,.inr rfl,.inr rfl,.inr rfl,.inr rfl,.inr rfl,trivial⟩⟩
      · first|omega|(dsimp only;omega)|(simp;omega)
      first|trivial|omega|(dsimp only;omega)|(simp;omega)
    refine s_ rfl ?_
    refine s_ rfl ?_
    refine s_ rfl ?_
    refine s_ rfl ?_
    refine s_ rfl ?_
    refine s_ rfl ?_
    refine p_ rfl (L_pick rfl rfl) ?_
    refine EOps_nil ?_
    refine G_cond rfl (fun hc49=>?_) (fun hc49=>?_)
    · exact Bool.noConfusion (hc49:false=true)
    have hf : srF u w ((a : Int), (z : Int)) = false := by
      first
        | (simp at hg42 hc49
           simp [srF];omega)
        | (simp at hg42
           simp [srF];omega)
    have hst1:sgN (srF u w) q (k+1)=s:=hst.trans (sgStep_f hf)
    refine G_skip ?_
    refine G_region' (L:=[0,1,2,3,4]) rfl ?_
    refine xmv ?_
    refine xmv ?_
    refine p_ rfl (L_index rfl rfl (xii sl_22 ty_3)) ?_
    refine l_ rfl (L_load rfl (xb0 ty_3)) ?_
    refine xas ?_
    refine EOps_nil ?_
    refine G_region' (L:=[0,1,2]) rfl ?_
    refine xmv ?_
    refine p_ rfl xb2 ?_
    refine xas ?_
    refine EOps_nil ?_
    refine⟨[0,1,2,3,4,5,6,7],rfl,k+1,?_,?_,(by rw [hst1]<;>rfl),⟨.inr rfl,.inr (int_eq (by rw [lastK_step,hz])),trivial⟩,⟨.inr rfl,.inr rfl,.inr rfl,.inr rfl,.inr rfl,.inr rfl,.inr rfl,.inr rfl,.inr rfl,.inr rfl,.inr rfl,trivial⟩⟩
    · first|omega|(dsimp only;omega)|(simp;omega)
    first|trivial|omega|(dsimp only;omega)|(simp;omega)
  have hkk : k = q.piv.length + 1 := by simp at hc36; omega
  rw [← hkk] at hsr
  subst hsr
  obtain⟨p1,p2,p3⟩:=hsame0
  generalize sgN (srF u w) q k=s at *
  have hcl:(cutV s.vals u w).length≤1048576:=by rw [cutV,List.length_take,List.length_drop];omega
  refine G_exit ?_
  refine G_seq ?_
  refine G_drawT mixed ?_
  refine tl_ 0 rfl (L_load rfl (xb0 ty_49)) ?_
  refine tj_ 2 rfl (l_field rfl fo_49_0) ?_
  refine tl_ 3 rfl (L_load rfl (xb0 ty_22)) ?_
  refine tj_ 4 rfl (L_move rfl) ?_
  refine tj_ 5 rfl (L_move rfl) ?_
  refine tj_ 6 rfl (by first|exact L_slice_ro (l:=u) (h:=w) rfl sl_22 ty_3 rfl rfl rfl (by first|omega|(simp [ints_len,pairs_len,quads_len,quints_len,bools_len];omega)|(simp [ints_len,pairs_len,quads_len,quints_len,bools_len] at *;omega)) (by first|omega|(simp [ints_len,pairs_len,quads_len,quints_len,bools_len];omega)|(simp [ints_len,pairs_len,quads_len,quints_len,bools_len] at *;omega)) (by first|exact fun r hr=>(ints_row _ r hr).1|exact fun r hr=>(pairs_row _ r hr).1|exact fun r hr=>(quads_row _ r hr).1|exact fun r hr=>(quints_row _ r hr).1|exact fun r hr=>(bools_row _ r hr).1)|exact L_slice_sl (l:=u) (h:=w) rfl sl_22 ty_3 rfl (by first|rfl|assumption) (by first|assumption|exact ints_len _|exact pairs_len _|exact quads_len _|exact quints_len _|exact bools_len _|(simp [ints_len,bools_len,pairs_len,quads_len,quints_len,part_len, *];done)|(simp [ints_len,bools_len,pairs_len,quads_len,quints_len];omega)|rfl) rfl rfl (by first|omega|(simp [ints_len,pairs_len,quads_len,quints_len,bools_len];omega)|(simp [ints_len,pairs_len,quads_len,quints_len,bools_len] at *;omega)) (by first|omega|(simp [ints_len,pairs_len,quads_len,quints_len,bools_len];omega)|(simp [ints_len,pairs_len,quads_len,quints_len,bools_len] at *;omega))) ?_
  refine t_fresh 2 [(⟨some (1,61),7,67,3⟩,_)] [(61,.any),(67,.any)] [1,7] ⟨.two rfl rfl rfl (by decide) (F_bslice rfl sl_22 ty_3) rfl rfl rfl (by decide) (f_append (news:=(ints (cutV s.vals u w))) rfl sl_22 ty_3 by_3 za_3 rfl (hy:=lend_cutI rfl p1)),trivial⟩ ?_
  refine fk_cons ?_
  rintro r S ⟨rfl,rfl⟩
  refine fk_nil ?_
  refine t_turn 8 rfl rfl (EOp_store rfl rfl rfl (xb1 ty_49) ?_)
  refine tj_ 9 rfl (L_assign rfl) ?_
  refine T_done (by kernel_rfl) ?_
  refine G_ret ?_
  rw [hsl]
  refine⟨_,[3,4,5,8],rfl,rfl,?_,?_⟩
  · simp only [crkO,p1,p2,p3,ints_len];rfl
  simp only [crkR,p3];rfl

set_option maxRecDepth 20000 in
set_option maxHeartbeats 8000000 in
theorem c_impl_SortedRange (c : Crk) (r : Int × Int) (hb : c.vals.length ≤ 1048576 ∧ c.rows.length ≤ 1048576 ∧ c.piv.length ≤ 1048576) : EFn Tryz.prog 78 [.agg (crkC c), .agg [.sc (.int .i64 r.1), .sc (.int .i64 r.2)]] [] (fun y S => y = .tup [(true, crkO 0 (srC c r)), (false, [.sl 3 0 (srL c r).length (srL c r).length])] ∧ S = crkR 3 151 (srC c r) ++ [.row 3 1 (ints (srL c r))]) := by
  refine E_fn Tryz.func78 rfl (Nat.le_of_ble_eq_true rfl) ?_
  refine E_G (n:=0) rfl ?_
  have hin:=sel_in (c:=c) (r:=r)
  have hnn:=sel_nn (c:=c) (r:=r)
  have hqle:=sel_le (c:=c) (r:=r) hb
  have hsame0:=srC_same (c:=c) (r:=r)
  have hsr:srC c r=if selK c r=true then sgN (srF (selLo c r) (selHi c r)) (selC c r) ((selC c r).piv.length+1) else selC c r:=rfl
  have hsl:srL c r=if selK c r=true then cutV (srC c r).vals (selLo c r) (selHi c r) else []:=rfl
  generalize srL c r=sl at *
  generalize srC c r=sc at *
  refine G_seq ?_
  refine G_region' (L:=[0,1,2,3]) rfl ?_
  refine x_box rfl rfl rfl rfl rfl ?_
  refine x_box rfl rfl rfl rfl rfl ?_
  refine x_alloc rfl rfl rfl rfl za_49 ?_
  refine xas ?_
  refine EOps_nil ?_
  refine G_seq ?_
  refine g_tidy_A37_0 [0,1,2,3,4,5] ?_
  refine G_region' (L:=[0,1,2,3,4,5,6,7,8,9,10,11,12]) rfl ?_
  refine l_ rfl (L_load rfl (xb0 ty_49)) ?_
  refine l_ rfl (L_load rfl (xb0 ty_53)) ?_
  refine x_call rfl rfl rfl rfl rfl ca_159 (c_impl_SelectRange c r hb) ?_
  rintro r S ⟨rfl,rfl⟩
  generalize selC c r=q at *
  generalize selLo c r=lo at *
  generalize selHi c r=hi at *
  generalize selN c r=nn at *
  obtain⟨u,rfl⟩:∃ u:Nat,lo=u:=⟨_,(Int.toNat_of_nonneg hnn.1).symm⟩
  obtain⟨w,rfl⟩:∃ w:Nat,hi=w:=⟨_,(Int.toNat_of_nonneg hnn.2).symm⟩
  refine xmv ?_
  refine p_ rfl (L_extract rfl rfl) ?_
  refine p_ rfl (L_extract rfl rfl) ?_
  refine p_ rfl (L_extract rfl rfl) ?_
  refine p_ rfl (L_extract rfl rfl) ?_
  refine x_alloc rfl rfl rfl rfl za_49 ?_
  refine EOps_go rfl rfl (EOp_store rfl rfl rfl (xb1 ty_49) ?_)
  refine xas ?_
  refine xas ?_
  refine xas ?_
  refine EOps_nil ?_
  refine G_seq ?_
  refine G_seq ?_
  refine g_tidy_A37_0 [0,1,2,3,4,5,6,7,8] ?_
  refine G_region' (L:=[0,1,2,3,4,5,6,7]) rfl ?_
  refine l_ rfl (L_load rfl (xb0 ty_49)) ?_
  refine x_call rfl rfl rfl rfl rfl ca_46 (c_impl_IsCracker c) ?_
  rintro r S ⟨rfl,rfl⟩
  refine p_ rfl (L_not rfl rfl) ?_
  refine xmv ?_
  refine EOps_split 23 (b:=_) rfl (fun hg23=>?_) (fun hg23=>?_)
  · refine s_ rfl ?_
    refine s_ rfl ?_
    refine s_ rfl ?_
    refine p_ rfl (L_pick rfl rfl) ?_
    refine EOps_nil ?_
    refine G_cond rfl (fun hc27=>?_) (fun hc27=>?_)
    · have hk : selK c r = false := by
        cases hk:selK c r
        · rfl
        exfalso
        have hcv:isCrk c=true∧isRng r=true:=by simpa [selK] using hk
        first
          | (rw [hcv.1] at hg23;exact Bool.noConfusion hg23)
          | (rw [hcv.2] at hc27;exact Bool.noConfusion hc27)
      rw [hk] at hsr hsl
      obtain rfl:sc=q:=hsr
      obtain rfl:sl=[]:=hsl
      refine G_seq ?_
      refine G_region' (L:=[0,1,2]) rfl ?_
      refine l_ rfl (L_load rfl (xb0 ty_49)) ?_
      refine EOps_go rfl rfl (EOp_store rfl rfl rfl (xb1 ty_49) ?_)
      refine xas ?_
      refine EOps_nil ?_
      refine G_ghostS 5 3 1 rfl (by decide) ?_
      refine G_ret ?_
      exact⟨_,[3,4,5,7],rfl,rfl,rfl,rfl⟩
    exact Bool.noConfusion (hc27:true=false)
  refine l_ rfl (L_load rfl (xb3 ty_53)) ?_
  refine x_call rfl rfl rfl rfl rfl ca_103 (c_impl_IsRange r) ?_
  rintro r S ⟨rfl,rfl⟩
  refine p_ rfl (L_not rfl rfl) ?_
  refine p_ rfl (L_pick rfl rfl) ?_
  refine EOps_nil ?_
  refine G_cond rfl (fun hc27=>?_) (fun hc27=>?_)
  · have hk : selK c r = false := by
      cases hk:selK c r
      · rfl
      exfalso
      have hcv:isCrk c=true∧isRng r=true:=by simpa [selK] using hk
      first
        | (rw [hcv.1] at hg23;exact Bool.noConfusion hg23)
        | (rw [hcv.2] at hc27;exact Bool.noConfusion hc27)
    rw [hk] at hsr hsl
    obtain rfl:sc=q:=hsr
    obtain rfl:sl=[]:=hsl
    refine G_seq ?_
    refine G_region' (L:=[0,1,2]) rfl ?_
    refine l_ rfl (L_load rfl (xb0 ty_49)) ?_
    refine EOps_go rfl rfl (EOp_store rfl rfl rfl (xb1 ty_49) ?_)
    refine xas ?_
    refine EOps_nil ?_
    refine G_ghostS 5 3 1 rfl (by decide) ?_
    refine G_ret ?_
    exact⟨_,[3,4,5,7],rfl,rfl,rfl,rfl⟩
  have hcv : isCrk c = true ∧ isRng r = true := ⟨by simpa using hg23, by simpa using hc27⟩
  have hk:selK c r=true:=by simp [selK,hcv.1,hcv.2]
  obtain⟨hqc,h0,hab0,hbn0,_⟩:=hin hk
  rw [if_pos hk] at hsr hsl
  have hl:=crk_lens hqc
  refine G_skip ?_
  refine G_seq ?_
  refine G_seq ?_
  refine g_tidy_A37_0 [0,1,2,3,4,5,6,7,8,27] ?_
  refine G_region' (L:=[0,1,2,3]) rfl ?_
  refine l_ rfl (L_load rfl (xb0 ty_49)) ?_
  refine x_call rfl rfl rfl rfl rfl ca_160 (c_impl_pieces q hqc) ?_
  rintro r S ⟨rfl,rfl⟩
  refine p_ rfl (l_len rfl sl_173) ?_
  refine xmv ?_
  refine EOps_nil ?_
  refine G_block ?_
  refine g_forD_A37_1 (α:=Nat) [0,1,2,3,4,5,6,7,8,27,30,31] (fun k=>[(32,.c (.sc (.int .i64 (k))))]) (fun k=>[.box (crkC c),.box [.sc (.int .i64 r.1),.sc (.int .i64 r.2)],.box [.sc (.slice none 0 0),.sc (.slice none 0 0),.sc (.slice none 0 0)],.row 3 1 (ints (sgP (srF u w) q ((piecesL q).take k)).vals),.row 3 1 (ints (sgP (srF u w) q ((piecesL q).take k)).rows),.row 151 2 (pairs q.piv),.box (crkO 3 q),.row 175 2 (pairs (piecesL q))]) (fun k=>k≤(piecesL q).length) (fun k=>(piecesL q).length - k) (0) ?_ (rfl) ⟨.inr rfl,trivial⟩ ?_
  · simp
  rintro k hkl
  have hel:(pairs (piecesL q)).length=(piecesL q).length:=pairs_len _
  have hsz:=piecesN_len q (q.piv.length+1)
  have hszL:(piecesL q).length≤q.piv.length+1:=hsz
  refine G_seq ?_
  refine G_region' (L:=[0]) rfl ?_
  refine p_ rfl (L_bin rfl rfl rfl rfl) ?_
  refine EOps_nil ?_
  refine G_seq ?_
  refine G_cond rfl (fun hc33=>?_) (fun hc33=>?_)
  · have hk1 : k < (piecesL q).length := by simpa using hc33
    obtain⟨p,hp⟩:=at_lt hk1
    have hpb:=pieces_in hqc (q.piv.length+1) (Nat.le_refl _) p (List.mem_of_getElem? hp)
    obtain⟨a,b,rfl,hab,hbn⟩:=nat_pair hpb
    have hst:=sgP_step (f:=srF u w) (c:=q) hp
    have hsame:=sgP_len (f:=srF u w) hqc k
    generalize sgP (srF u w) q ((piecesL q).take k)=s at *
    refine G_skip ?_
    refine G_seq ?_
    refine G_block ?_
    refine G_seq ?_
    refine G_region' (L:=[0,1,2,3]) rfl ?_
    refine p_ rfl (L_index rfl rfl (xii sl_173 ty_175)) ?_
    refine l_ rfl (L_load rfl (xb0 ty_175)) ?_
    refine x_alloc rfl rfl rfl rfl za_175 ?_
    refine EOps_go rfl rfl (EOp_store rfl rfl rfl (xb1 ty_175) ?_)
    refine EOps_nil ?_
    refine G_seq ?_
    refine G_region' (L:=[0,1,2,3,4,5,6,7,8,9]) rfl ?_
    refine p_ rfl (L_index rfl rfl (iav_ar ar_175 ty_3 (by decide) (by decide) rfl rfl)) ?_
    refine l_ rfl (L_load rfl (xb0 ty_3)) ?_
    refine xmv ?_
    refine p_ rfl (L_bin rfl rfl rfl rfl) ?_
    refine xmv ?_
    refine EOps_split 40 (b:=_) rfl (fun hg40=>?_) (fun hg40=>?_)
    · refine p_ rfl (L_index rfl rfl (iav_ar ar_175 ty_3 (by decide) (by decide) rfl rfl)) ?_
      refine l_ rfl (L_load rfl (xb0 ty_3)) ?_
      refine xmv ?_
      refine p_ rfl (L_bin rfl rfl rfl rfl) ?_
      refine p_ rfl (L_pick rfl rfl) ?_
      refine EOps_nil ?_
      refine G_cond rfl (fun hc45=>?_) (fun hc45=>?_)
      · have hf : srF u w ((a : Int), (b : Int)) = true := by
          first
            | (simp at hg40 hc45
               simp [srF];omega)
            | (exfalso;simp at hc45;done)
        have hst1:sgP (srF u w) q ((piecesL q).take (k+1))=segC s a b:=hst.trans (sgStep_t hf)
        refine g_tidy_A37_0 [0,1,2,3,4,5,6,7,8,11,27,30,31,32,33,45] ?_
        refine G_region' (L:=[0,1,2,3,4]) rfl ?_
        refine p_ rfl (L_index rfl rfl (iav_ar ar_175 ty_3 (by decide) (by decide) rfl rfl)) ?_
        refine l_ rfl (L_load rfl (xb0 ty_3)) ?_
        refine p_ rfl (L_index rfl rfl (iav_ar ar_175 ty_3 (by decide) (by decide) rfl rfl)) ?_
        refine l_ rfl (L_load rfl (xb0 ty_3)) ?_
        refine x_frame [6,3,4,5] rfl rfl rfl rfl rfl ca_161 rfl (c_sortAt hsame a b hl.2.1 hab hbn hl.1) ?_
        rintro r S ⟨r0,S0,⟨rfl,rfl⟩,rfl,rfl⟩
        refine EOps_nil ?_
        refine G_region' (L:=[0,1]) rfl ?_
        refine p_ rfl xb2 ?_
        refine xmv ?_
        refine EOps_nil ?_
        refine⟨[0,1,2,3,4,5,6,7],rfl,k+1,?_,?_,(by rw [hst1]<;>rfl),⟨.inr rfl,trivial⟩,⟨.inr rfl,.inr rfl,.inr rfl,.inr rfl,.inr rfl,.inr rfl,.inr rfl,.inr rfl,.inr rfl,.inr rfl,.inr rfl,.inr rfl,trivial⟩⟩
        · first|omega|(dsimp only;omega)|(simp;omega)
        first|trivial|omega|(dsimp only;omega)|(simp;omega)
      have hf : srF u w ((a : Int), (b : Int)) = false := by
        first
          | (simp at hg40 hc45
             simp [srF];omega)
          | (simp at hg40
             simp [srF];omega)
      have hst1:sgP (srF u w) q ((piecesL q).take (k+1))=s:=hst.trans (sgStep_f hf)
      refine G_skip ?_
      refine G_region' (L:=[0,1]) rfl ?_
      refine p_ rfl xb2 ?_
      refine xmv ?_
      refine EOps_nil ?_
      refine⟨[0,1,2,3,4,5,6,7],rfl,k+1,?_,?_,(by rw [hst1]<;>rfl),⟨.inr rfl,trivial⟩,⟨.inr rfl,.inr rfl,.inr rfl,.inr rfl,.inr rfl,.inr rfl,.inr rfl,.inr rfl,.inr rfl,.inr rfl,.inr rfl,.inr rfl,trivial⟩⟩
      · first|omega|(dsimp only;omega)|(simp;omega)
      first|trivial|omega|(dsimp only;omega)|(simp;omega)
    refine s_ rfl ?_
    refine s_ rfl ?_
    refine s_ rfl ?_
    refine s_ rfl ?_
    refine p_ rfl (L_pick rfl rfl) ?_
    refine EOps_nil ?_
    refine G_cond rfl (fun hc45=>?_) (fun hc45=>?_)
    · exact Bool.noConfusion (hc45:false=true)
    have hf : srF u w ((a : Int), (b : Int)) = false := by
      first
        | (simp at hg40 hc45
           simp [srF];omega)
        | (simp at hg40
           simp [srF];omega)
    have hst1:sgP (srF u w) q ((piecesL q).take (k+1))=s:=hst.trans (sgStep_f hf)
    refine G_skip ?_
    refine G_region' (L:=[0,1]) rfl ?_
    refine p_ rfl xb2 ?_
    refine xmv ?_
    refine EOps_nil ?_
    refine⟨[0,1,2,3,4,5,6,7],rfl,k+1,?_,?_,(by rw [hst1]<;>rfl),⟨.inr rfl,trivial⟩,⟨.inr rfl,.inr rfl,.inr rfl,.inr rfl,.inr rfl,.inr rfl,.inr rfl,.inr rfl,.inr rfl,.inr rfl,.inr rfl,.inr rfl,trivial⟩⟩
    · first|omega|(dsimp only;omega)|(simp;omega)
    first|trivial|omega|(dsimp only;omega)|(simp;omega)
  have hkk : (piecesL q).length ≤ k := by simpa using hc33
  have hfin : sc = sgP (srF u w) q ((piecesL q).take k) := by
    rw [List.take_of_length_le hkk,hsr];exact sgN_pieces hqc _ (Nat.le_refl _)
  subst hfin
  obtain⟨p1,p2,p3⟩:=hsame0
  generalize sgP (srF u w) q ((piecesL q).take k)=s at *
  have hcl:(cutV s.vals u w).length≤1048576:=by rw [cutV,List.length_take,List.length_drop];omega
  refine G_exit ?_
  refine G_seq ?_
  refine g_tidy_A37_0 [0,1,2,3,4,5,6,7,8,11,27,30,31,32,33,45] ?_
  refine G_drawT mixed ?_
  refine tl_ 0 rfl (L_load rfl (xb0 ty_49)) ?_
  refine tj_ 1 rfl (l_field rfl fo_49_0) ?_
  refine tl_ 2 rfl (L_load rfl (xb0 ty_22)) ?_
  refine tj_ 3 rfl (L_move rfl) ?_
  refine tj_ 4 rfl (L_move rfl) ?_
  refine tj_ 5 rfl (by first|exact L_slice_ro (l:=u) (h:=w) rfl sl_22 ty_3 rfl rfl rfl (by first|omega|(simp [ints_len,pairs_len,quads_len,quints_len,bools_len];omega)|(simp [ints_len,pairs_len,quads_len,quints_len,bools_len] at *;omega)) (by first|omega|(simp [ints_len,pairs_len,quads_len,quints_len,bools_len];omega)|(simp [ints_len,pairs_len,quads_len,quints_len,bools_len] at *;omega)) (by first|exact fun r hr=>(ints_row _ r hr).1|exact fun r hr=>(pairs_row _ r hr).1|exact fun r hr=>(quads_row _ r hr).1|exact fun r hr=>(quints_row _ r hr).1|exact fun r hr=>(bools_row _ r hr).1)|exact L_slice_sl (l:=u) (h:=w) rfl sl_22 ty_3 rfl (by first|rfl|assumption) (by first|assumption|exact ints_len _|exact pairs_len _|exact quads_len _|exact quints_len _|exact bools_len _|(simp [ints_len,bools_len,pairs_len,quads_len,quints_len,part_len, *];done)|(simp [ints_len,bools_len,pairs_len,quads_len,quints_len];omega)|rfl) rfl rfl (by first|omega|(simp [ints_len,pairs_len,quads_len,quints_len,bools_len];omega)|(simp [ints_len,pairs_len,quads_len,quints_len,bools_len] at *;omega)) (by first|omega|(simp [ints_len,pairs_len,quads_len,quints_len,bools_len];omega)|(simp [ints_len,pairs_len,quads_len,quints_len,bools_len] at *;omega))) ?_
  refine t_call 6 rfl rfl rfl rfl rfl ca_162 (c_slices_Clone___int_int_ (cutV s.vals u w) hcl) ?_ (ha:=by exact cons_eq (lend_cutI rfl p1) rfl)
  rintro r S ⟨rfl,rfl⟩
  refine t_turn 7 rfl rfl (EOp_store rfl rfl rfl (xb1 ty_49) ?_)
  refine tj_ 8 rfl (L_assign rfl) ?_
  refine T_done (by kernel_rfl) ?_
  refine G_ret ?_
  rw [hsl]
  refine⟨_,[3,4,5,8],rfl,rfl,?_,?_⟩
  · simp only [crkO,p1,p2,p3];rfl
  simp only [crkR,p3];rfl

end Go.Proofs.YtlodlnbhjghjoaaGreat.E
