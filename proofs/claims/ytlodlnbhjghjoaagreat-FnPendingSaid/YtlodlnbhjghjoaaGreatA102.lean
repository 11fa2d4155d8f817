/- Walks through functions, by program out of the session's annotations. -/
import Derived.Test.YtlodlnbhjghjoaaGreatA101
namespace Go.Proofs.YtlodlnbhjghjoaaGreat.E
open Go Go.RowKit Go.Proofs
set_option linter.unusedVariables false
set_option linter.unusedSimpArgs false

theorem mvN_bd (h a:Nat):0≤mvN h a∧mvN h a≤1:=by unfold mvN;split<;>omega
theorem insI0 {c : Crk} {x : Int} (hc : CrkOk c) (g : Int × Int) : InsI c.piv c.piv (zpC c) x c.piv.length (zpC c ++ [g]) c.vals.length := by
 have hz:(zpC c).length=c.vals.length:=by simp [zpC,hc.rl]
 have hzo:=hc.z
 refine⟨by simp,rfl,Nat.le_refl _,by omega,fun _ _=>rfl,fun j p hj hp=>?_,fun j p hj hp=>?_,?_,fun i z hi hzz j p hp=>?_⟩
 ·rw [List.getElem?_eq_none hj] at hp;cases hp
 ·have:=(hzo.pv p (List.mem_of_getElem? hp)).2.2.2.1;omega
 ·rw [← hz,List.eraseIdx_append_of_length_le (Nat.le_refl _),Nat.sub_self];simp
 have hj := lt_of_at hp
 rw [if_neg (by omega),Int.add_zero]
 refine (hzo.pv p (List.mem_of_getElem? hp)).2.2.2.2 i z ?_
 have hi2:=lt_of_at hzz
 rwa [List.getElem?_append_left (by simp at hi2;omega)] at hzz
theorem ripI_eq {c : Crk} {x g : Int × Int} {Z P : List (Int × Int)} {h : Nat} {m : Int} (hl : c.rows.length = c.vals.length) (he : insR c x g = (Z, P, h, m)) : ripI c x = crkZ (Z.set h x) P ∧ ripIn c x = m := by
 have hg:=insR_cong c x g hl
 rw [he] at hg
 dsimp only at hg
 rw [ripI,ripIn,← hg.2,← hg.1]
 exact⟨rfl,rfl⟩
theorem insZ_go {x : Int} {k a : Nat} {Z P : List (Int × Int)} {h : Nat} {m p1 : Int} (hp : P[k]? = some (p1, (a : Int))) (hx : x < p1) : insZ x (k + 1) Z P h m = insZ x k (mvZ Z h a) (P.set k (p1, (a : Int) + 1)) a (m + mvN h a) := by
 rw [insZ,getD_of hp,if_pos hx]
 rfl
theorem insZ_stop {x : Int} {k : Nat} {Z P : List (Int × Int)} {h : Nat} {m : Int} {p : Int × Int} (hp : P[k]? = some p) (hx : ¬ x < p.1) : insZ x (k + 1) Z P h m = (Z, P, h, m) := by
 rw [insZ,getD_of hp,if_neg hx]
theorem zpC_1 {c : Crk} (h : c.rows.length = c.vals.length) : (zpC c).map (·.1) = c.vals := by
 rw [zpC];exact List.map_fst_zip (by omega)
theorem zpC_2 {c : Crk} (h : c.rows.length = c.vals.length) : (zpC c).map (·.2) = c.rows := by
 rw [zpC];exact List.map_snd_zip (by omega)
theorem item_parts {x : Int × Int} (h : isItem x = true) : -999 ≤ x.1 ∧ x.1 ≤ 999 ∧ 0 ≤ x.2 ∧ x.2 ≤ 999 := by
 simp only [isItem,isIn,Bool.and_eq_true,decide_eq_true_eq] at h;omega

set_option maxRecDepth 20000 in
set_option maxHeartbeats 8000000 in
theorem c_impl_RippleInsert (c : Crk) (x : Int × Int) (hc : isCrk c = true) (hx : isItem x = true) (hr : x.2 ∉ c.rows) (hl : c.vals.length < 64) : EFn Tryz.prog 149 [.agg (crkC c), .agg [.sc (.int .i64 x.1), .sc (.int .i64 x.2)]] [] (fun r S => r = .tup [(true, crkO 0 (ripI c x)), (false, [.sc (.int .i64 (ripIn c x))]), (false, [.sc (.bool true)])] ∧ S = crkR 3 151 (ripI c x)) := by
  refine E_fn Tryz.func149 rfl (Nat.le_of_ble_eq_true rfl) ?_
  have hln:=crk_lens hc
  have hok:=(crk_iff c).1 hc
  have hno:=rowIx_no hr
  have hit:=item_parts hx
  have hz:(zpC c).length=c.vals.length:=by simp [zpC,hok.rl]
  have hb:∀ p ∈ c.piv,0≤p.2∧p.2≤(zpC c).length:=fun p hp=>by have:=hok.pv p hp;omega
  refine E_seq ?_
  refine E_region' (L:=[0,1,2,3,4]) rfl ?_
  refine x_box rfl rfl rfl rfl rfl ?_
  refine x_box rfl rfl rfl rfl rfl ?_
  refine x_alloc rfl rfl rfl rfl za_49 ?_
  refine xas ?_
  refine xas ?_
  refine EOps_nil ?_
  refine E_seq ?_
  refine e_tidy_A37_2 [0,1,2,3,4,5,6] ?_
  refine E_region' (L:=[0,1,2,3]) rfl ?_
  refine l_ rfl (L_load rfl (xb0 ty_49)) ?_
  refine x_call rfl rfl rfl rfl rfl ca_104 (c_impl_copyCracker c (by omega)) ?_
  rintro r S ⟨rfl,rfl⟩
  refine x_alloc rfl rfl rfl rfl za_49 ?_
  refine EOps_go rfl rfl (EOp_store rfl rfl rfl (xb1 ty_49) ?_)
  refine EOps_nil ?_
  refine E_seq ?_
  refine E_seq ?_
  refine e_tidy_A37_2 [0,1,2,3,4,5,6,7] ?_
  refine E_region' (L:=[0,1,2,3,4,5,6,7,8,9,10,11,12,13,14,15,16,17,18,19,20]) rfl ?_
  refine l_ rfl (L_load rfl (xb0 ty_49)) ?_
  refine x_call rfl rfl rfl rfl rfl ca_46 (c_impl_IsCracker c) ?_
  rintro r S ⟨rfl,rfl⟩
  refine p_ rfl (L_not rfl rfl) ?_
  refine xmv ?_
  refine EOps_split 17 (b:=_) rfl (fun hg17=>?_) (fun hg17=>?_)
  · simp [hc] at hg17
  refine l_ rfl (L_load rfl (xb3 ty_104)) ?_
  refine x_call rfl rfl rfl rfl rfl ca_155 (c_impl_IsItem x) ?_
  rintro r S ⟨rfl,rfl⟩
  refine p_ rfl (L_not rfl rfl) ?_
  refine p_ rfl (L_pick rfl rfl) ?_
  refine xmv ?_
  refine EOps_split 22 (b:=_) rfl (fun hg22=>?_) (fun hg22=>?_)
  · simp [hx] at hg22
  refine l_ rfl (L_load rfl (xb3 ty_49)) ?_
  refine p_ rfl (l_field rfl fo_104_1) ?_
  refine l_ rfl (L_load rfl (xb0 ty_3)) ?_
  refine x_call rfl rfl rfl rfl rfl ca_147 (c_impl_FindRow c x.2) ?_
  rintro r S ⟨rfl,rfl⟩
  refine p_ rfl (L_bin rfl rfl rfl rfl) ?_
  refine p_ rfl (L_pick rfl rfl) ?_
  refine xmv ?_
  refine EOps_split 29 (b:=_) rfl (fun hg29=>?_) (fun hg29=>?_)
  · simp [hno] at hg29
  refine p_ rfl (l_field rfl fo_49_0) ?_
  refine l_ rfl (L_load rfl (xb0 ty_22)) ?_
  refine p_ rfl (l_len rfl sl_22) ?_
  refine p_ rfl (L_bin rfl rfl rfl rfl) ?_
  refine p_ rfl (L_pick rfl rfl) ?_
  refine EOps_nil ?_
  refine E_cond rfl (fun hc34=>?_) (fun hc34=>?_)
  · simp [ints_len] at hc34;omega
  refine E_skip ?_
  refine E_seq ?_
  refine E_region' (L:=[0,1,2,3,4]) rfl ?_
  refine p_ rfl (l_field rfl fo_49_0) ?_
  refine l_ rfl (L_load rfl (xb0 ty_22)) ?_
  refine p_ rfl (l_len rfl sl_22) ?_
  refine xas ?_
  refine xas ?_
  refine EOps_nil ?_
  refine E_seq ?_
  refine E_drawD [1,6] mixed ?_
  refine d_pure' 0 rfl rfl rfl (l_field rfl fo_49_0) ?_
  refine d_pure' 2 rfl rfl rfl (l_field rfl fo_104_0) ?_
  refine d_pure' 6 rfl rfl rfl (l_field rfl fo_49_1) ?_
  refine d_pure' 8 rfl rfl rfl (l_field rfl fo_104_1) ?_
  refine d_load' 1 rfl rfl rfl rfl rfl (d_bp ty_22) ?_
  refine d_load' 3 rfl rfl rfl rfl rfl (d_bp ty_3) ?_
  refine d_load' 7 rfl rfl rfl rfl rfl (d_bp ty_22) ?_
  refine d_load' 9 rfl rfl rfl rfl rfl (d_bp ty_3) ?_
  refine d_any 4 [10] ⟨?_,?_,trivial⟩
  · refine d_heavy 4 rfl rfl (H_bslice_ro rfl rfl (by decide) sl_22 ty_3 za_3 ⟨rfl, by decide⟩ (by decide) rfl rfl rfl rfl ?_)
    refine d_any 5 [10] ⟨?_,?_,trivial⟩
    · refine d_append 5 (news := ints [x.1]) rfl rfl rfl rfl sl_22 ty_3 by_3 za_3 ⟨rfl, by decide⟩ rfl (by first | rfl | assumption) (by first | assumption | exact ints_len _ | exact pairs_len _ | exact quads_len _ | exact quints_len _ | exact bools_len _ | (simp [ints_len, bools_len, pairs_len, quads_len, quints_len, part_len, *]; done) | (simp [ints_len, bools_len, pairs_len, quads_len, quints_len]; omega) | rfl) (by first | (refine lend_whole rfl ?_; first | assumption | exact ints_len _ | exact pairs_len _ | exact quads_len _ | exact quints_len _ | exact bools_len _ | (simp [ints_len, bools_len, pairs_len, quads_len, quints_len, part_len, *]; done) | (simp [ints_len, bools_len, pairs_len, quads_len, quints_len]; omega) | rfl) | rfl | simp [E.lend, lendC]) (by first | exact ints_row _ | exact pairs_row _ | exact quads_row _ | exact quints_row _ | exact bools_row _ | (intro r hr; simp [chunk] at hr; subst hr; exact ⟨rfl, rfl⟩)) (by simp [ints_len, bools_len, pairs_len, quads_len, quints_len, chunk]; omega) ?_
      refine d_any 10 [] ⟨?_,trivial⟩
      refine d_heavy 10 rfl rfl (H_bslice_ro rfl rfl (by decide) sl_22 ty_3 za_3 ⟨rfl,by decide⟩ (by decide) rfl rfl rfl rfl ?_)
      refine d_any 11 [] ⟨?_,trivial⟩
      refine d_append 11 (news:=ints [x.2]) rfl rfl rfl rfl sl_22 ty_3 by_3 za_3 ⟨rfl,by decide⟩ rfl (by first|rfl|assumption) xb6 xb7 xb8 xb9 ?_
      refine d_pure' 12 rfl rfl rfl (l_field rfl fo_49_0) ?_
      refine d_dom 13 [] rfl rfl (EOp_store rfl rfl rfl (xb1 ty_22) ?_)
      refine d_pure' 14 rfl rfl rfl (l_field rfl fo_49_1) ?_
      refine d_dom 15 [] rfl rfl (EOp_store rfl rfl rfl (xb1 ty_22) ?_)
      refine D_done (by kernel_rfl) ?_
      refine E_seq ?_
      refine E_seq ?_
      refine E_region' (L:=[0,1,2,3,4]) rfl ?_
      refine p_ rfl (l_field rfl fo_49_2) ?_
      refine l_ rfl (L_load rfl (xb0 ty_47)) ?_
      refine p_ rfl (l_len rfl sl_47) ?_
      refine p_ rfl xb5 ?_
      refine xas ?_
      refine EOps_nil ?_
      refine E_block ?_
      refine e_for_A37_3 (α:=Nat × List (Int × Int) × List (Int × Int) × Nat × Int) [0,1,2,3,4,5,6,7,34] (fun (k,Z,P,h,mv)=>[(10,.c (.sc (.int .i64 (((k:Int) - 1))))),(8,.c (.sc (.int .i64 ((h:Int))))),(9,.c (.sc (.int .i64 (mv)))),(11,.any)]) (fun (k,Z,P,h,mv)=>[.box (crkC c),.box [.sc (.int .i64 x.1),.sc (.int .i64 x.2)],_,.row 3 1 (ints (Z.map (·.1))),.row 3 1 (ints (Z.map (·.2))),.row 151 2 (pairs P),.box [.sl 3 0 (c.vals.length+1) (c.vals.length+1),.sl 4 0 (c.vals.length+1) (c.vals.length+1),.sl 5 0 c.piv.length c.piv.length]]) (fun (k,Z,P,h,mv)=>insZ x.1 k Z P h mv=insR c x x∧InsI c.piv P (zpC c) x.1 k Z h∧0≤mv∧mv≤(c.piv.length:Int) - k) (fun (k,Z,P,h,mv)=>k) ((c.piv.length,zpC c++[x],c.piv,c.vals.length,0)) ?_ (by dsimp only;rw [List.map_append,List.map_append,zpC_1 hok.rl,zpC_2 hok.rl,← ints_app,← ints_app,← hok.rl];rfl) ⟨.inr (int_eq (by first|rfl|rw [pairs_len]|(dsimp only;rw [pairs_len]))),.inr (int_eq (by first|rfl|rw [ints_len]|(dsimp only;rw [ints_len]))),.inr rfl,.inl rfl,trivial⟩ ?_
      · exact⟨rfl,insI0 hok x,by first|omega|(dsimp only;omega),by first|omega|(dsimp only;omega)⟩
      rintro⟨k,Z,P,h,mv⟩ ⟨hgo,I,hmv0,hmv1⟩
      dsimp only at *
      have hZ:Z.length=c.vals.length+1:=by rw [I.zl,hz]
      have hP:P.length=c.piv.length:=I.pl
      have hPl:(pairs P).length=c.piv.length:=by rw [pairs_len];exact hP
      have hkl:=I.kl
      have hhn:=I.hn
      refine E_seq ?_
      refine E_seq ?_
      refine E_drawT mixed ?_
      refine tj_ 0 rfl (L_move rfl) ?_
      refine tj_ 1 rfl (L_bin rfl rfl rfl rfl) ?_
      refine tj_ 2 rfl (L_move rfl) ?_
      refine T_split 59 (b:=_) rfl rfl (fun hg59=>?_) (fun hg59=>?_)
      · obtain ⟨k', rfl⟩ : ∃ k', k = k' + 1 := ⟨k - 1, by simp at hg59; omega⟩
        obtain⟨⟨p1,p2⟩,hp⟩:=at_lt (l:=c.piv) (k:=k') (by omega)
        obtain⟨a,rfl⟩:∃ a:Nat,p2=a:=⟨p2.toNat,by have:=hb _ (List.mem_of_getElem? hp);dsimp only at this;omega⟩
        have hpb:=hb _ (List.mem_of_getElem? hp)
        have hpP:P[k']? = some (p1,(a:Int)):=by rw [I.lo k' (by omega)];exact hp
        have hix:(((k'+1:Nat):Int) - 1).toNat=k':=by omega
        have hpQ:P[(((k'+1:Nat):Int) - 1).toNat]? = some (p1,(a:Int)):=by rw [hix];exact hpP
        refine tj_ 3 rfl (l_field rfl fo_49_2) ?_
        refine tl_ 4 rfl (L_load rfl (xb0 ty_47)) ?_
        refine tj_ 5 rfl (L_move rfl) ?_
        refine tj_ 6 rfl (L_index rfl rfl (xii sl_47 ty_151)) ?_
        refine tj_ 7 rfl (l_field rfl fo_151_0) ?_
        refine tl_ 8 rfl (L_load rfl (xb0 ty_3)) ?_
        refine tj_ 9 rfl (l_field rfl fo_104_0) ?_
        refine tl_ 10 rfl (L_load rfl (xb0 ty_3)) ?_
        refine tj_ 11 rfl (L_bin rfl rfl rfl rfl) ?_
        refine tj_ 12 rfl (L_pick rfl rfl) ?_
        refine T_done (by kernel_rfl) ?_
        refine E_cond rfl (fun hc69=>?_) (fun hc69=>?_)
        · have hlt : x.1 < p1 := by simpa using hc69
          have hst:=insI_step hok.so hb I hp hlt
          rw [insZ_go hpP hlt] at hgo
          have hmb:=mvN_bd h a
          refine E_skip ?_
          refine E_seq ?_
          refine E_block ?_
          refine E_seq ?_
          refine E_region' (L:=[0,1,2,3,4,5,6]) rfl ?_
          refine p_ rfl (l_field rfl fo_49_2) ?_
          refine l_ rfl (L_load rfl (xb0 ty_47)) ?_
          refine xmv ?_
          refine p_ rfl (L_index rfl rfl (xii sl_47 ty_151)) ?_
          refine p_ rfl (l_field rfl fo_151_1) ?_
          refine l_ rfl (L_load rfl (xb0 ty_3)) ?_
          refine xas ?_
          refine EOps_nil ?_
          refine E_seq ?_
          refine e_tidy_A37_2 [0,1,2,3,4,5,6,7,8,9,10,11,34,69] ?_
          refine E_region' (L:=[0,1,2,3,4,5]) rfl ?_
          refine xmv ?_
          refine xmv ?_
          refine xmv ?_
          refine x_frame [6,3,4,5] rfl rfl rfl rfl rfl ca_203 rfl (c___impl_Cracker__put Z P h a (c.vals.length+1) c.piv.length hZ hP (by omega) (by omega)) ?_
          rintro r S ⟨r0,S0,⟨rfl,rfl⟩,rfl,rfl⟩
          refine p_ rfl xb2 ?_
          refine xas ?_
          refine EOps_nil ?_
          refine E_seq ?_
          refine E_region' (L:=[0,1]) rfl ?_
          refine xmv ?_
          refine xas ?_
          refine EOps_nil ?_
          refine E_region' (L:=[0,1,2,3,4,5,6,7,8,9]) rfl ?_
          refine p_ rfl (l_field rfl fo_49_2) ?_
          refine l_ rfl (L_load rfl (xb0 ty_47)) ?_
          refine xmv ?_
          refine p_ rfl (L_index rfl rfl (xii sl_47 ty_151)) ?_
          refine p_ rfl (l_field rfl fo_151_1) ?_
          refine l_ rfl (L_load rfl (xb0 ty_3)) ?_
          refine p_ rfl xb2 ?_
          refine p_ rfl (L_index rfl rfl (xii sl_47 ty_151)) ?_
          refine p_ rfl (l_field rfl fo_151_1) ?_
          refine EOps_go rfl rfl (EOp_store rfl rfl rfl (xb1 ty_3) ?_)
          refine EOps_nil ?_
          refine E_region' (L:=[0,1,2]) rfl ?_
          refine xmv ?_
          refine p_ rfl xb5 ?_
          refine xas ?_
          refine EOps_nil ?_
          refine⟨(k',mvZ Z h a,P.set k' (p1,(a:Int)+1),a,mv+mvN h a),?_,?_,(by rw [← pairs_set,hix,Nat.zero_add k'];rfl),⟨.inr (int_eq (by first|omega|(dsimp only;omega))),.inr rfl,.inr rfl,.inl rfl,trivial⟩,⟨.inr rfl,.inr rfl,.inr rfl,.inr rfl,.inr rfl,.inr rfl,.inr rfl,.inr rfl,.inr rfl,trivial⟩⟩
          · first|omega|(dsimp only;omega)|(simp;omega)
          exact⟨hgo,hst,by dsimp only;omega,by dsimp only;omega⟩
        have hend : insR c x x = (Z, P, h, mv) := by
          first
            | exact hend
            | (have hge : ¬ x.1 < p1 := by simpa using hc69
               exact hgo.symm.trans (insZ_stop hpP hge))
        refine E_exit ?_
        refine E_seq ?_
        have hV:(ints (Z.map (·.1))).length=c.vals.length+1:=by rw [ints_len,List.length_map];exact hZ
        have hW:(ints (Z.map (·.2))).length=c.vals.length+1:=by rw [ints_len,List.length_map];exact hZ
        obtain⟨z0,hz0⟩:=at_lt (l:=Z) (k:=h) (by omega)
        have hv0:(Z.map (·.1))[h]? = some z0.1:=by rw [List.getElem?_map,hz0];rfl
        have hw0:(Z.map (·.2))[h]? = some z0.2:=by rw [List.getElem?_map,hz0];rfl
        refine E_drawB mixed ?_
        refine b_pure 0 rfl rfl rfl (l_field rfl fo_49_0) ?_
        refine b_load 1 rfl rfl rfl rfl rfl (d_bp ty_22) ?_
        refine b_pure 2 rfl rfl rfl (L_move rfl) ?_
        refine b_pure 3 rfl rfl rfl (l_field rfl fo_49_1) ?_
        refine b_load 4 rfl rfl rfl rfl rfl (d_bp ty_22) ?_
        refine b_pure 5 rfl rfl rfl (L_move rfl) ?_
        refine b_pure 6 rfl rfl rfl (l_field rfl fo_104_0) ?_
        refine b_load 7 rfl rfl rfl rfl rfl (d_bp ty_3) ?_
        refine b_pure 8 rfl rfl rfl (l_field rfl fo_104_1) ?_
        refine b_load 9 rfl rfl rfl rfl rfl (d_bp ty_3) ?_
        refine b_pure 10 rfl rfl rfl (L_index rfl rfl (xii sl_22 ty_3)) ?_
        refine B_one 11 ?_
        refine b_store 11 rfl rfl rfl rfl rfl rfl (s_ep ty_3) ?_
        refine b_pure 12 rfl rfl rfl (L_index rfl rfl (xii sl_22 ty_3)) ?_
        refine B_one 13 ?_
        refine b_store 13 rfl rfl rfl rfl rfl rfl (s_ep ty_3) ?_
        refine B_done (by kernel_rfl) ?_
        refine E_seq ?_
        refine E_region' (L:=[0,1,2,3,4]) rfl ?_
        refine l_ rfl (L_load rfl (xb0 ty_49)) ?_
        refine xmv ?_
        refine EOps_go rfl rfl (EOp_store rfl rfl rfl (xb1 ty_49) ?_)
        refine xas ?_
        refine xas ?_
        refine EOps_nil ?_
        refine E_ret ?_
        obtain⟨e1,e2⟩:=ripI_eq hok.rl hend
        rw [e1,e2]
        refine⟨_,[3,4,5],rfl,rfl,?_,?_⟩
        · simp only [crkO,crkZ,List.length_map,List.length_set,hZ,hP];rfl
        simp only [crkR, crkZ, List.map_set]
        rw [← ints_set,← ints_set];simp only [Int.toNat_natCast,Nat.zero_add];rfl
      have hk0 : k = 0 := by simp at hg59; omega
      subst hk0
      have hend:insR c x x=(Z,P,h,mv):=hgo.symm
      refine tk_ 3 rfl ?_
      refine tk_ 4 rfl ?_
      refine tk_ 5 rfl ?_
      refine tk_ 6 rfl ?_
      refine tk_ 7 rfl ?_
      refine tk_ 8 rfl ?_
      refine tk_ 9 rfl ?_
      refine tk_ 10 rfl ?_
      refine tk_ 11 rfl ?_
      refine tj_ 12 rfl (L_pick rfl rfl) ?_
      refine T_done (by kernel_rfl) ?_
      refine E_cond rfl (fun hc69=>?_) (fun hc69=>?_)
      · exact Bool.noConfusion (hc69:false=true)
      have hend : insR c x x = (Z, P, h, mv) := by
        first
          | exact hend
          | (have hge : ¬ x.1 < p1 := by simpa using hc69
             exact hgo.symm.trans (insZ_stop hpP hge))
      refine E_exit ?_
      refine E_seq ?_
      have hV:(ints (Z.map (·.1))).length=c.vals.length+1:=by rw [ints_len,List.length_map];exact hZ
      have hW:(ints (Z.map (·.2))).length=c.vals.length+1:=by rw [ints_len,List.length_map];exact hZ
      obtain⟨z0,hz0⟩:=at_lt (l:=Z) (k:=h) (by omega)
      have hv0:(Z.map (·.1))[h]? = some z0.1:=by rw [List.getElem?_map,hz0];rfl
      have hw0:(Z.map (·.2))[h]? = some z0.2:=by rw [List.getElem?_map,hz0];rfl
      refine E_drawB mixed ?_
      refine b_pure 0 rfl rfl rfl (l_field rfl fo_49_0) ?_
      refine b_load 1 rfl rfl rfl rfl rfl (d_bp ty_22) ?_
      refine b_pure 2 rfl rfl rfl (L_move rfl) ?_
      refine b_pure 3 rfl rfl rfl (l_field rfl fo_49_1) ?_
      refine b_load 4 rfl rfl rfl rfl rfl (d_bp ty_22) ?_
      refine b_pure 5 rfl rfl rfl (L_move rfl) ?_
      refine b_pure 6 rfl rfl rfl (l_field rfl fo_104_0) ?_
      refine b_load 7 rfl rfl rfl rfl rfl (d_bp ty_3) ?_
      refine b_pure 8 rfl rfl rfl (l_field rfl fo_104_1) ?_
      refine b_load 9 rfl rfl rfl rfl rfl (d_bp ty_3) ?_
      refine b_pure 10 rfl rfl rfl (L_index rfl rfl (xii sl_22 ty_3)) ?_
      refine B_one 11 ?_
      refine b_store 11 rfl rfl rfl rfl rfl rfl (s_ep ty_3) ?_
      refine b_pure 12 rfl rfl rfl (L_index rfl rfl (xii sl_22 ty_3)) ?_
      refine B_one 13 ?_
      refine b_store 13 rfl rfl rfl rfl rfl rfl (s_ep ty_3) ?_
      refine B_done (by kernel_rfl) ?_
      refine E_seq ?_
      refine E_region' (L:=[0,1,2,3,4]) rfl ?_
      refine l_ rfl (L_load rfl (xb0 ty_49)) ?_
      refine xmv ?_
      refine EOps_go rfl rfl (EOp_store rfl rfl rfl (xb1 ty_49) ?_)
      refine xas ?_
      refine xas ?_
      refine EOps_nil ?_
      refine E_ret ?_
      obtain⟨e1,e2⟩:=ripI_eq hok.rl hend
      rw [e1,e2]
      refine⟨_,[3,4,5],rfl,rfl,?_,?_⟩
      · simp only [crkO,crkZ,List.length_map,List.length_set,hZ,hP];rfl
      simp only [crkR, crkZ, List.map_set]
      rw [← ints_set,← ints_set];simp only [Int.toNat_natCast,Nat.zero_add];rfl
    refine d_heavy 10 rfl rfl (H_bslice_ro rfl rfl (by decide) sl_22 ty_3 za_3 ⟨rfl, by decide⟩ (by decide) rfl rfl rfl rfl ?_)
    refine d_any 5 [] ⟨?_,trivial⟩
    refine d_append 5 (news:=ints [x.1]) rfl rfl rfl rfl sl_22 ty_3 by_3 za_3 ⟨rfl,by decide⟩ rfl (by first|rfl|assumption) xb6 xb7 xb8 xb9 ?_
    refine d_any 11 [] ⟨?_,trivial⟩
    refine d_append 11 (news:=ints [x.2]) rfl rfl rfl rfl sl_22 ty_3 by_3 za_3 ⟨rfl,by decide⟩ rfl (by first|rfl|assumption) xb6 xb7 xb8 xb9 ?_
    refine d_pure' 12 rfl rfl rfl (l_field rfl fo_49_0) ?_
    refine d_dom 13 [] rfl rfl (EOp_store rfl rfl rfl (xb1 ty_22) ?_)
    refine d_pure' 14 rfl rfl rfl (l_field rfl fo_49_1) ?_
    refine d_dom 15 [] rfl rfl (EOp_store rfl rfl rfl (xb1 ty_22) ?_)
    refine D_done (by kernel_rfl) ?_
    refine E_seq ?_
    refine E_seq ?_
    refine E_region' (L:=[0,1,2,3,4]) rfl ?_
    refine p_ rfl (l_field rfl fo_49_2) ?_
    refine l_ rfl (L_load rfl (xb0 ty_47)) ?_
    refine p_ rfl (l_len rfl sl_47) ?_
    refine p_ rfl xb5 ?_
    refine xas ?_
    refine EOps_nil ?_
    refine E_block ?_
    refine e_for_A37_3 (α:=Nat × List (Int × Int) × List (Int × Int) × Nat × Int) [0,1,2,3,4,5,6,7,34] (fun (k,Z,P,h,mv)=>[(10,.c (.sc (.int .i64 (((k:Int) - 1))))),(8,.c (.sc (.int .i64 ((h:Int))))),(9,.c (.sc (.int .i64 (mv)))),(11,.any)]) (fun (k,Z,P,h,mv)=>[.box (crkC c),.box [.sc (.int .i64 x.1),.sc (.int .i64 x.2)],_,.row 3 1 (ints (Z.map (·.1))),.row 3 1 (ints (Z.map (·.2))),.row 151 2 (pairs P),.box [.sl 3 0 (c.vals.length+1) (c.vals.length+1),.sl 4 0 (c.vals.length+1) (c.vals.length+1),.sl 5 0 c.piv.length c.piv.length]]) (fun (k,Z,P,h,mv)=>insZ x.1 k Z P h mv=insR c x x∧InsI c.piv P (zpC c) x.1 k Z h∧0≤mv∧mv≤(c.piv.length:Int) - k) (fun (k,Z,P,h,mv)=>k) ((c.piv.length,zpC c++[x],c.piv,c.vals.length,0)) ?_ (by dsimp only;rw [List.map_append,List.map_append,zpC_1 hok.rl,zpC_2 hok.rl,← ints_app,← ints_app,← hok.rl];rfl) ⟨.inr (int_eq (by first|rfl|rw [pairs_len]|(dsimp only;rw [pairs_len]))),.inr (int_eq (by first|rfl|rw [ints_len]|(dsimp only;rw [ints_len]))),.inr rfl,.inl rfl,trivial⟩ ?_
    · exact⟨rfl,insI0 hok x,by first|omega|(dsimp only;omega),by first|omega|(dsimp only;omega)⟩
    rintro⟨k,Z,P,h,mv⟩ ⟨hgo,I,hmv0,hmv1⟩
    dsimp only at *
    have hZ:Z.length=c.vals.length+1:=by rw [I.zl,hz]
    have hP:P.length=c.piv.length:=I.pl
    have hPl:(pairs P).length=c.piv.length:=by rw [pairs_len];exact hP
    have hkl:=I.kl
    have hhn:=I.hn
    refine E_seq ?_
    refine E_seq ?_
    refine E_drawT mixed ?_
    refine tj_ 0 rfl (L_move rfl) ?_
    refine tj_ 1 rfl (L_bin rfl rfl rfl rfl) ?_
    refine tj_ 2 rfl (L_move rfl) ?_
    refine T_split 59 (b:=_) rfl rfl (fun hg59=>?_) (fun hg59=>?_)
    · obtain ⟨k', rfl⟩ : ∃ k', k = k' + 1 := ⟨k - 1, by simp at hg59; omega⟩
      obtain⟨⟨p1,p2⟩,hp⟩:=at_lt (l:=c.piv) (k:=k') (by omega)
      obtain⟨a,rfl⟩:∃ a:Nat,p2=a:=⟨p2.toNat,by have:=hb _ (List.mem_of_getElem? hp);dsimp only at this;omega⟩
      have hpb:=hb _ (List.mem_of_getElem? hp)
      have hpP:P[k']? = some (p1,(a:Int)):=by rw [I.lo k' (by omega)];exact hp
      have hix:(((k'+1:Nat):Int) - 1).toNat=k':=by omega
      have hpQ:P[(((k'+1:Nat):Int) - 1).toNat]? = some (p1,(a:Int)):=by rw [hix];exact hpP
      refine tj_ 3 rfl (l_field rfl fo_49_2) ?_
      refine tl_ 4 rfl (L_load rfl (xb0 ty_47)) ?_
      refine tj_ 5 rfl (L_move rfl) ?_
      refine tj_ 6 rfl (L_index rfl rfl (xii sl_47 ty_151)) ?_
      refine tj_ 7 rfl (l_field rfl fo_151_0) ?_
      refine tl_ 8 rfl (L_load rfl (xb0 ty_3)) ?_
      refine tj_ 9 rfl (l_field rfl fo_104_0) ?_
      refine tl_ 10 rfl (L_load rfl (xb0 ty_3)) ?_
      refine tj_ 11 rfl (L_bin rfl rfl rfl rfl) ?_
      refine tj_ 12 rfl (L_pick rfl rfl) ?_
      refine T_done (by kernel_rfl) ?_
      refine E_cond rfl (fun hc69=>?_) (fun hc69=>?_)
      · have hlt : x.1 < p1 := by simpa using hc69
        have hst:=insI_step hok.so hb I hp hlt
        rw [insZ_go hpP hlt] at hgo
        have hmb:=mvN_bd h a
        refine E_skip ?_
        refine E_seq ?_
        refine E_block ?_
        refine E_seq ?_
        refine E_region' (L:=[0,1,2,3,4,5,6]) rfl ?_
        refine p_ rfl (l_field rfl fo_49_2) ?_
        refine l_ rfl (L_load rfl (xb0 ty_47)) ?_
        refine xmv ?_
        refine p_ rfl (L_index rfl rfl (xii sl_47 ty_151)) ?_
        refine p_ rfl (l_field rfl fo_151_1) ?_
        refine l_ rfl (L_load rfl (xb0 ty_3)) ?_
        refine xas ?_
        refine EOps_nil ?_
        refine E_seq ?_
        refine e_tidy_A37_2 [0,1,2,3,4,5,6,7,8,9,10,11,34,69] ?_
        refine E_region' (L:=[0,1,2,3,4,5]) rfl ?_
        refine xmv ?_
        refine xmv ?_
        refine xmv ?_
        refine x_frame [6,3,4,5] rfl rfl rfl rfl rfl ca_203 rfl (c___impl_Cracker__put Z P h a (c.vals.length+1) c.piv.length hZ hP (by omega) (by omega)) ?_
        rintro r S ⟨r0,S0,⟨rfl,rfl⟩,rfl,rfl⟩
        refine p_ rfl xb2 ?_
        refine xas ?_
        refine EOps_nil ?_
        refine E_seq ?_
        refine E_region' (L:=[0,1]) rfl ?_
        refine xmv ?_
        refine xas ?_
        refine EOps_nil ?_
        refine E_region' (L:=[0,1,2,3,4,5,6,7,8,9]) rfl ?_
        refine p_ rfl (l_field rfl fo_49_2) ?_
        refine l_ rfl (L_load rfl (xb0 ty_47)) ?_
        refine xmv ?_
        refine p_ rfl (L_index rfl rfl (xii sl_47 ty_151)) ?_
        refine p_ rfl (l_field rfl fo_151_1) ?_
        refine l_ rfl (L_load rfl (xb0 ty_3)) ?_
        refine p_ rfl xb2 ?_
        refine p_ rfl (L_index rfl rfl (xii sl_47 ty_151)) ?_
        refine p_ rfl (l_field rfl fo_151_1) ?_
        refine EOps_go rfl rfl (EOp_store rfl rfl rfl (xb1 ty_3) ?_)
        refine EOps_nil ?_
        refine E_region' (L:=[0,1,2]) rfl ?_
        refine xmv ?_
        refine p_ rfl xb5 ?_
        refine xas ?_
        refine EOps_nil ?_
        refine⟨(k',mvZ Z h a,P.set k' (p1,(a:Int)+1),a,mv+mvN h a),?_,?_,(by rw [← pairs_set,hix,Nat.zero_add k'];rfl),⟨.inr (int_eq (by first|omega|(dsimp only;omega))),.inr rfl,.inr rfl,.inl rfl,trivial⟩,⟨.inr rfl,.inr rfl,.inr rfl,.inr rfl,.inr rfl,.inr rfl,.inr rfl,.inr rfl,.inr rfl,trivial⟩⟩
        · first|omega|(dsimp only;omega)|(simp;omega)
        exact⟨hgo,hst,by dsimp only;omega,by dsimp only;omega⟩
      have hend : insR c x x = (Z, P, h, mv) := by
        first
          | exact hend
          | (have hge : ¬ x.1 < p1 := by simpa using hc69
             exact hgo.symm.trans (insZ_stop hpP hge))
      refine E_exit ?_
      refine E_seq ?_
      have hV:(ints (Z.map (·.1))).length=c.vals.length+1:=by rw [ints_len,List.length_map];exact hZ
      have hW:(ints (Z.map (·.2))).length=c.vals.length+1:=by rw [ints_len,List.length_map];exact hZ
      obtain⟨z0,hz0⟩:=at_lt (l:=Z) (k:=h) (by omega)
      have hv0:(Z.map (·.1))[h]? = some z0.1:=by rw [List.getElem?_map,hz0];rfl
      have hw0:(Z.map (·.2))[h]? = some z0.2:=by rw [List.getElem?_map,hz0];rfl
      refine E_drawB mixed ?_
      refine b_pure 0 rfl rfl rfl (l_field rfl fo_49_0) ?_
      refine b_load 1 rfl rfl rfl rfl rfl (d_bp ty_22) ?_
      refine b_pure 2 rfl rfl rfl (L_move rfl) ?_
      refine b_pure 3 rfl rfl rfl (l_field rfl fo_49_1) ?_
      refine b_load 4 rfl rfl rfl rfl rfl (d_bp ty_22) ?_
      refine b_pure 5 rfl rfl rfl (L_move rfl) ?_
      refine b_pure 6 rfl rfl rfl (l_field rfl fo_104_0) ?_
      refine b_load 7 rfl rfl rfl rfl rfl (d_bp ty_3) ?_
      refine b_pure 8 rfl rfl rfl (l_field rfl fo_104_1) ?_
      refine b_load 9 rfl rfl rfl rfl rfl (d_bp ty_3) ?_
      refine b_pure 10 rfl rfl rfl (L_index rfl rfl (xii sl_22 ty_3)) ?_
      refine B_one 11 ?_
      refine b_store 11 rfl rfl rfl rfl rfl rfl (s_ep ty_3) ?_
      refine b_pure 12 rfl rfl rfl (L_index rfl rfl (xii sl_22 ty_3)) ?_
      refine B_one 13 ?_
      refine b_store 13 rfl rfl rfl rfl rfl rfl (s_ep ty_3) ?_
      refine B_done (by kernel_rfl) ?_
      refine E_seq ?_
      refine E_region' (L:=[0,1,2,3,4]) rfl ?_
      refine l_ rfl (L_load rfl (xb0 ty_49)) ?_
      refine xmv ?_
      refine EOps_go rfl rfl (EOp_store rfl rfl rfl (xb1 ty_49) ?_)
      refine xas ?_
      refine xas ?_
      refine EOps_nil ?_
      refine E_ret ?_
      obtain⟨e1,e2⟩:=ripI_eq hok.rl hend
      rw [e1,e2]
      refine⟨_,[3,4,5],rfl,rfl,?_,?_⟩
      · simp only [crkO,crkZ,List.length_map,List.length_set,hZ,hP];rfl
      simp only [crkR, crkZ, List.map_set]
      rw [← ints_set,← ints_set];simp only [Int.toNat_natCast,Nat.zero_add];rfl
    have hk0 : k = 0 := by simp at hg59; omega
    subst hk0
    have hend:insR c x x=(Z,P,h,mv):=hgo.symm
    refine tk_ 3 rfl ?_
    refine tk_ 4 rfl ?_
    refine tk_ 5 rfl ?_
    refine tk_ 6 rfl ?_
    refine tk_ 7 rfl ?_
    refine tk_ 8 rfl ?_
    refine tk_ 9 rfl ?_
    refine tk_ 10 rfl ?_
    refine tk_ 11 rfl ?_
    refine tj_ 12 rfl (L_pick rfl rfl) ?_
    refine T_done (by kernel_rfl) ?_
    refine E_cond rfl (fun hc69=>?_) (fun hc69=>?_)
    · exact Bool.noConfusion (hc69:false=true)
    have hend : insR c x x = (Z, P, h, mv) := by
      first
        | exact hend
        | (have hge : ¬ x.1 < p1 := by simpa using hc69
           exact hgo.symm.trans (insZ_stop hpP hge))
    refine E_exit ?_
    refine E_seq ?_
    have hV:(ints (Z.map (·.1))).length=c.vals.length+1:=by rw [ints_len,List.length_map];exact hZ
    have hW:(ints (Z.map (·.2))).length=c.vals.length+1:=by rw [ints_len,List.length_map];exact hZ
    obtain⟨z0,hz0⟩:=at_lt (l:=Z) (k:=h) (by omega)
    have hv0:(Z.map (·.1))[h]? = some z0.1:=by rw [List.getElem?_map,hz0];rfl
    have hw0:(Z.map (·.2))[h]? = some z0.2:=by rw [List.getElem?_map,hz0];rfl
    refine E_drawB mixed ?_
    refine b_pure 0 rfl rfl rfl (l_field rfl fo_49_0) ?_
    refine b_load 1 rfl rfl rfl rfl rfl (d_bp ty_22) ?_
    refine b_pure 2 rfl rfl rfl (L_move rfl) ?_
    refine b_pure 3 rfl rfl rfl (l_field rfl fo_49_1) ?_
    refine b_load 4 rfl rfl rfl rfl rfl (d_bp ty_22) ?_
    refine b_pure 5 rfl rfl rfl (L_move rfl) ?_
    refine b_pure 6 rfl rfl rfl (l_field rfl fo_104_0) ?_
    refine b_load 7 rfl rfl rfl rfl rfl (d_bp ty_3) ?_
    refine b_pure 8 rfl rfl rfl (l_field rfl fo_104_1) ?_
    refine b_load 9 rfl rfl rfl rfl rfl (d_bp ty_3) ?_
    refine b_pure 10 rfl rfl rfl (L_index rfl rfl (xii sl_22 ty_3)) ?_
    refine B_one 11 ?_
    refine b_store 11 rfl rfl rfl rfl rfl rfl (s_ep ty_3) ?_
    refine b_pure 12 rfl rfl rfl (L_index rfl rfl (xii sl_22 ty_3)) ?_
    refine B_one 13 ?_
    refine b_store 13 rfl rfl rfl rfl rfl rfl (s_ep ty_3) ?_
    refine B_done (by kernel_rfl) ?_
    refine E_seq ?_
    refine E_region' (L:=[0,1,2,3,4]) rfl ?_
    refine l_ rfl (L_load rfl (xb0 ty_49)) ?_
    refine xmv ?_
    refine EOps_go rfl rfl (EOp_store rfl rfl rfl (xb1 ty_49) ?_)
    refine xas ?_
    refine xas ?_
    refine EOps_nil ?_
    refine E_ret ?_
    obtain⟨e1,e2⟩:=ripI_eq hok.rl hend
    rw [e1,e2]
    refine⟨_,[3,4,5],rfl,rfl,?_,?_⟩
    · simp only [crkO,crkZ,List.length_map,List.length_set,hZ,hP];rfl
    simp only [crkR, crkZ, List.map_set]
    rw [← ints_set,← ints_set];simp only [Int.toNat_natCast,Nat.zero_add];rfl
  refine d_heavy 10 rfl rfl (H_bslice_ro rfl rfl (by decide) sl_22 ty_3 za_3 ⟨rfl, by decide⟩ (by decide) rfl rfl rfl rfl ?_)
  refine d_any 4 [] ⟨?_,trivial⟩
  refine d_heavy 4 rfl rfl (H_bslice_ro rfl rfl (by decide) sl_22 ty_3 za_3 ⟨rfl,by decide⟩ (by decide) rfl rfl rfl rfl ?_)
  refine d_any 5 [] ⟨?_,trivial⟩
  refine d_append 5 (news:=ints [x.1]) rfl rfl rfl rfl sl_22 ty_3 by_3 za_3 ⟨rfl,by decide⟩ rfl (by first|rfl|assumption) xb6 xb7 xb8 xb9 ?_
  refine d_any 11 [] ⟨?_,trivial⟩
  refine d_append 11 (news:=ints [x.2]) rfl rfl rfl rfl sl_22 ty_3 by_3 za_3 ⟨rfl,by decide⟩ rfl (by first|rfl|assumption) xb6 xb7 xb8 xb9 ?_
  refine d_pure' 12 rfl rfl rfl (l_field rfl fo_49_0) ?_
  refine d_dom 13 [] rfl rfl (EOp_store rfl rfl rfl (xb1 ty_22) ?_)
  refine d_pure' 14 rfl rfl rfl (l_field rfl fo_49_1) ?_
  refine d_dom 15 [] rfl rfl (EOp_store rfl rfl rfl (xb1 ty_22) ?_)
  refine D_done (by kernel_rfl) ?_
  refine E_seq ?_
  refine E_seq ?_
  refine E_region' (L:=[0,1,2,3,4]) rfl ?_
  refine p_ rfl (l_field rfl fo_49_2) ?_
  refine l_ rfl (L_load rfl (xb0 ty_47)) ?_
  refine p_ rfl (l_len rfl sl_47) ?_
  refine p_ rfl xb5 ?_
  refine xas ?_
  refine EOps_nil ?_
  refine E_block ?_
  refine e_for_A37_3 (α:=Nat × List (Int × Int) × List (Int × Int) × Nat × Int) [0,1,2,3,4,5,6,7,34] (fun (k,Z,P,h,mv)=>[(10,.c (.sc (.int .i64 (((k:Int) - 1))))),(8,.c (.sc (.int .i64 ((h:Int))))),(9,.c (.sc (.int .i64 (mv)))),(11,.any)]) (fun (k,Z,P,h,mv)=>[.box (crkC c),.box [.sc (.int .i64 x.1),.sc (.int .i64 x.2)],_,.row 3 1 (ints (Z.map (·.1))),.row 3 1 (ints (Z.map (·.2))),.row 151 2 (pairs P),.box [.sl 3 0 (c.vals.length+1) (c.vals.length+1),.sl 4 0 (c.vals.length+1) (c.vals.length+1),.sl 5 0 c.piv.length c.piv.length]]) (fun (k,Z,P,h,mv)=>insZ x.1 k Z P h mv=insR c x x∧InsI c.piv P (zpC c) x.1 k Z h∧0≤mv∧mv≤(c.piv.length:Int) - k) (fun (k,Z,P,h,mv)=>k) ((c.piv.length,zpC c++[x],c.piv,c.vals.length,0)) ?_ (by dsimp only;rw [List.map_append,List.map_append,zpC_1 hok.rl,zpC_2 hok.rl,← ints_app,← ints_app,← hok.rl];rfl) ⟨.inr (int_eq (by first|rfl|rw [pairs_len]|(dsimp only;rw [pairs_len]))),.inr (int_eq (by first|rfl|rw [ints_len]|(dsimp only;rw [ints_len]))),.inr rfl,.inl rfl,trivial⟩ ?_
  · exact⟨rfl,insI0 hok x,by first|omega|(dsimp only;omega),by first|omega|(dsimp only;omega)⟩
  rintro⟨k,Z,P,h,mv⟩ ⟨hgo,I,hmv0,hmv1⟩
  dsimp only at *
  have hZ:Z.length=c.vals.length+1:=by rw [I.zl,hz]
  have hP:P.length=c.piv.length:=I.pl
  have hPl:(pairs P).length=c.piv.length:=by rw [pairs_len];exact hP
  have hkl:=I.kl
  have hhn:=I.hn
  refine E_seq ?_
  refine E_seq ?_
  refine E_drawT mixed ?_
  refine tj_ 0 rfl (L_move rfl) ?_
  refine tj_ 1 rfl (L_bin rfl rfl rfl rfl) ?_
  refine tj_ 2 rfl (L_move rfl) ?_
  refine T_split 59 (b:=_) rfl rfl (fun hg59=>?_) (fun hg59=>?_)
  · obtain ⟨k', rfl⟩ : ∃ k', k = k' + 1 := ⟨k - 1, by simp at hg59; omega⟩
    obtain⟨⟨p1,p2⟩,hp⟩:=at_lt (l:=c.piv) (k:=k') (by omega)
    obtain⟨a,rfl⟩:∃ a:Nat,p2=a:=⟨p2.toNat,by have:=hb _ (List.mem_of_getElem? hp);dsimp only at this;omega⟩
    have hpb:=hb _ (List.mem_of_getElem? hp)
    have hpP:P[k']? = some (p1,(a:Int)):=by rw [I.lo k' (by omega)];exact hp
    have hix:(((k'+1:Nat):Int) - 1).toNat=k':=by omega
    have hpQ:P[(((k'+1:Nat):Int) - 1).toNat]? = some (p1,(a:Int)):=by rw [hix];exact hpP
    refine tj_ 3 rfl (l_field rfl fo_49_2) ?_
    refine tl_ 4 rfl (L_load rfl (xb0 ty_47)) ?_
    refine tj_ 5 rfl (L_move rfl) ?_
    refine tj_ 6 rfl (L_index rfl rfl (xii sl_47 ty_151)) ?_
    refine tj_ 7 rfl (l_field rfl fo_151_0) ?_
    refine tl_ 8 rfl (L_load rfl (xb0 ty_3)) ?_
    refine tj_ 9 rfl (l_field rfl fo_104_0) ?_
    refine tl_ 10 rfl (L_load rfl (xb0 ty_3)) ?_
    refine tj_ 11 rfl (L_bin rfl rfl rfl rfl) ?_
    refine tj_ 12 rfl (L_pick rfl rfl) ?_
    refine T_done (by kernel_rfl) ?_
    refine E_cond rfl (fun hc69=>?_) (fun hc69=>?_)
    · have hlt : x.1 < p1 := by simpa using hc69
      have hst:=insI_step hok.so hb I hp hlt
      rw [insZ_go hpP hlt] at hgo
      have hmb:=mvN_bd h a
      refine E_skip ?_
      refine E_seq ?_
      refine E_block ?_
      refine E_seq ?_
      refine E_region' (L:=[0,1,2,3,4,5,6]) rfl ?_
      refine p_ rfl (l_field rfl fo_49_2) ?_
      refine l_ rfl (L_load rfl (xb0 ty_47)) ?_
      refine xmv ?_
      refine p_ rfl (L_index rfl rfl (xii sl_47 ty_151)) ?_
      refine p_ rfl (l_field rfl fo_151_1) ?_
      refine l_ rfl (L_load rfl (xb0 ty_3)) ?_
      refine xas ?_
      refine EOps_nil ?_
      refine E_seq ?_
      refine e_tidy_A37_2 [0,1,2,3,4,5,6,7,8,9,10,11,34,69] ?_
      refine E_region' (L:=[0,1,2,3,4,5]) rfl ?_
      refine xmv ?_
      refine xmv ?_
      refine xmv ?_
      refine x_frame [6,3,4,5] rfl rfl rfl rfl rfl ca_203 rfl (c___impl_Cracker__put Z P h a (c.vals.length+1) c.piv.length hZ hP (by omega) (by omega)) ?_
      rintro r S ⟨r0,S0,⟨rfl,rfl⟩,rfl,rfl⟩
      refine p_ rfl xb2 ?_
      refine xas ?_
      refine EOps_nil ?_
      refine E_seq ?_
      refine E_region' (L:=[0,1]) rfl ?_
      refine xmv ?_
      refine xas ?_
      refine EOps_nil ?_
      refine E_region' (L:=[0,1,2,3,4,5,6,7,8,9]) rfl ?_
      refine p_ rfl (l_field rfl fo_49_2) ?_
      refine l_ rfl (L_load rfl (xb0 ty_47)) ?_
      refine xmv ?_
      refine p_ rfl (L_index rfl rfl (xii sl_47 ty_151)) ?_
      refine p_ rfl (l_field rfl fo_151_1) ?_
      refine l_ rfl (L_load rfl (xb0 ty_3)) ?_
      refine p_ rfl xb2 ?_
      refine p_ rfl (L_index rfl rfl (xii sl_47 ty_151)) ?_
      refine p_ rfl (l_field rfl fo_151_1) ?_
      refine EOps_go rfl rfl (EOp_store rfl rfl rfl (xb1 ty_3) ?_)
      refine EOps_nil ?_
      refine E_region' (L:=[0,1,2]) rfl ?_
      refine xmv ?_
      refine p_ rfl xb5 ?_
      refine xas ?_
      refine EOps_nil ?_
      refine⟨(k',mvZ Z h a,P.set k' (p1,(a:Int)+1),a,mv+mvN h a),?_,?_,(by rw [← pairs_set,hix,Nat.zero_add k'];rfl),⟨.inr (int_eq (by first|omega|(dsimp only;omega))),.inr rfl,.inr rfl,.inl rfl,trivial⟩,⟨.inr rfl,.inr rfl,.inr rfl,.inr rfl,.inr rfl,.inr rfl,.inr rfl,.inr rfl,.inr rfl,trivial⟩⟩
      · first|omega|(dsimp only;omega)|(simp;omega)
      exact⟨hgo,hst,by dsimp only;omega,by dsimp only;omega⟩
    have hend : insR c x x = (Z, P, h, mv) := by
      first
        | exact hend
        | (have hge : ¬ x.1 < p1 := by simpa using hc69
           exact hgo.symm.trans (insZ_stop hpP hge))
    refine E_exit ?_
    refine E_seq ?_
    have hV:(ints (Z.map (·.1))).length=c.vals.length+1:=by rw [ints_len,List.length_map];exact hZ
    have hW:(ints (Z.map (·.2))).length=c.vals.length+1:=by rw [ints_len,List.length_map];exact hZ
    obtain⟨z0,hz0⟩:=at_lt (l:=Z) (k:=h) (by omega)
    have hv0:(Z.map (·.1))[h]? = some z0.1:=by rw [List.getElem?_map,hz0];rfl
    have hw0:(Z.map (·.2))[h]? = some z0.2:=by rw [List.getElem?_map,hz0];rfl
    refine E_drawB mixed ?_
    refine b_pure 0 rfl rfl rfl (l_field rfl fo_49_0) ?_
    refine b_load 1 rfl rfl rfl rfl rfl (d_bp ty_22) ?_
    refine b_pure 2 rfl rfl rfl (L_move rfl) ?_
    refine b_pure 3 rfl rfl rfl (l_field rfl fo_49_1) ?_
    refine b_load 4 rfl rfl rfl rfl rfl (d_bp ty_22) ?_
    refine b_pure 5 rfl rfl rfl (L_move rfl) ?_
    refine b_pure 6 rfl rfl rfl (l_field rfl fo_104_0) ?_
    refine b_load 7 rfl rfl rfl rfl rfl (d_bp ty_3) ?_
    refine b_pure 8 rfl rfl rfl (l_field rfl fo_104_1) ?_
    refine b_load 9 rfl rfl rfl rfl rfl (d_bp ty_3) ?_
    refine b_pure 10 rfl rfl rfl (L_index rfl rfl (xii sl_22 ty_3)) ?_
    refine B_one 11 ?_
    refine b_store 11 rfl rfl rfl rfl rfl rfl (s_ep ty_3) ?_
    refine b_pure 12 rfl rfl rfl (L_index rfl rfl (xii sl_22 ty_3)) ?_
    refine B_one 13 ?_
    refine b_store 13 rfl rfl rfl rfl rfl rfl (s_ep ty_3) ?_
    refine B_done (by kernel_rfl) ?_
    refine E_seq ?_
    refine E_region' (L:=[0,1,2,3,4]) rfl ?_
    refine l_ rfl (L_load rfl (xb0 ty_49)) ?_
    refine xmv ?_
    refine EOps_go rfl rfl (EOp_store rfl rfl rfl (xb1 ty_49) ?_)
    refine xas ?_
    refine xas ?_
    refine EOps_nil ?_
    refine E_ret ?_
    obtain⟨e1,e2⟩:=ripI_eq hok.rl hend
    rw [e1,e2]
    refine⟨_,[3,4,5],rfl,rfl,?_,?_⟩
    · simp only [crkO,crkZ,List.length_map,List.length_set,hZ,hP];rfl
    simp only [crkR, crkZ, List.map_set]
    rw [← ints_set,← ints_set];simp only [Int.toNat_natCast,Nat.zero_add];rfl
  have hk0 : k = 0 := by simp at hg59; omega
  subst hk0
  have hend:insR c x x=(Z,P,h,mv):=hgo.symm
  refine tk_ 3 rfl ?_
  refine tk_ 4 rfl ?_
  refine tk_ 5 rfl ?_
  refine tk_ 6 rfl ?_
  refine tk_ 7 rfl ?_
  refine tk_ 8 rfl ?_
  refine tk_ 9 rfl ?_
  refine tk_ 10 rfl ?_
  refine tk_ 11 rfl ?_
  refine tj_ 12 rfl (L_pick rfl rfl) ?_
  refine T_done (by kernel_rfl) ?_
  refine E_cond rfl (fun hc69=>?_) (fun hc69=>?_)
  · exact Bool.noConfusion (hc69:false=true)
  have hend : insR c x x = (Z, P, h, mv) := by
    first
      | exact hend
      | (have hge : ¬ x.1 < p1 := by simpa using hc69
         exact hgo.symm.trans (insZ_stop hpP hge))
  refine E_exit ?_
  refine E_seq ?_
  have hV:(ints (Z.map (·.1))).length=c.vals.length+1:=by rw [ints_len,List.length_map];exact hZ
  have hW:(ints (Z.map (·.2))).length=c.vals.length+1:=by rw [ints_len,List.length_map];exact hZ
  obtain⟨z0,hz0⟩:=at_lt (l:=Z) (k:=h) (by omega)
  have hv0:(Z.map (·.1))[h]? = some z0.1:=by rw [List.getElem?_map,hz0];rfl
  have hw0:(Z.map (·.2))[h]? = some z0.2:=by rw [List.getElem?_map,hz0];rfl
  refine E_drawB mixed ?_
  refine b_pure 0 rfl rfl rfl (l_field rfl fo_49_0) ?_
  refine b_load 1 rfl rfl rfl rfl rfl (d_bp ty_22) ?_
  refine b_pure 2 rfl rfl rfl (L_move rfl) ?_
  refine b_pure 3 rfl rfl rfl (l_field rfl fo_49_1) ?_
  refine b_load 4 rfl rfl rfl rfl rfl (d_bp ty_22) ?_
  refine b_pure 5 rfl rfl rfl (L_move rfl) ?_
  refine b_pure 6 rfl rfl rfl (l_field rfl fo_104_0) ?_
  refine b_load 7 rfl rfl rfl rfl rfl (d_bp ty_3) ?_
  refine b_pure 8 rfl rfl rfl (l_field rfl fo_104_1) ?_
  refine b_load 9 rfl rfl rfl rfl rfl (d_bp ty_3) ?_
  refine b_pure 10 rfl rfl rfl (L_index rfl rfl (xii sl_22 ty_3)) ?_
  refine B_one 11 ?_
  refine b_store 11 rfl rfl rfl rfl rfl rfl (s_ep ty_3) ?_
  refine b_pure 12 rfl rfl rfl (L_index rfl rfl (xii sl_22 ty_3)) ?_
  refine B_one 13 ?_
  refine b_store 13 rfl rfl rfl rfl rfl rfl (s_ep ty_3) ?_
  refine B_done (by kernel_rfl) ?_
  refine E_seq ?_
  refine E_region' (L:=[0,1,2,3,4]) rfl ?_
  refine l_ rfl (L_load rfl (xb0 ty_49)) ?_
  refine xmv ?_
  refine EOps_go rfl rfl (EOp_store rfl rfl rfl (xb1 ty_49) ?_)
  refine xas ?_
  refine xas ?_
  refine EOps_nil ?_
  refine E_ret ?_
  obtain⟨e1,e2⟩:=ripI_eq hok.rl hend
  rw [e1,e2]
  refine⟨_,[3,4,5],rfl,rfl,?_,?_⟩
  · simp only [crkO,crkZ,List.length_map,List.length_set,hZ,hP];rfl
  simp only [crkR, crkZ, List.map_set]
  rw [← ints_set,← ints_set];simp only [Int.toNat_natCast,Nat.zero_add];rfl

set_option maxRecDepth 20000 in
set_option maxHeartbeats 8000000 in
theorem c_spec_RippleInsert (c : Crk) (x : Int × Int) (hc : isCrk c = true) (hx : isItem x = true) (hr : x.2 ∉ c.rows) (hl : c.vals.length < 64) : EFn Tryz.prog 152 [.agg (crkC c), .agg [.sc (.int .i64 x.1), .sc (.int .i64 x.2)]] [] (fun r S => r = .tup [(true, crkO 0 (ripI c x)), (false, [.sc (.int .i64 (ripIn c x))]), (false, [.sc (.bool true)])] ∧ S = crkR 3 151 (ripI c x)) := by
  refine E_fn Tryz.func152 rfl (Nat.le_of_ble_eq_true rfl) ?_
  have hln:=crk_lens hc
  have hok:=(crk_iff c).1 hc
  have hno:=rowIx_no hr
  have hit:=item_parts hx
  have hz:(zpC c).length=c.vals.length:=by simp [zpC,hok.rl]
  have hb:∀ p ∈ c.piv,0≤p.2∧p.2≤(zpC c).length:=fun p hp=>by have:=hok.pv p hp;omega
  refine E_seq ?_
  refine E_region' (L:=[0,1,2,3,4]) rfl ?_
  refine x_box rfl rfl rfl rfl rfl ?_
  refine x_box rfl rfl rfl rfl rfl ?_
  refine x_alloc rfl rfl rfl rfl za_49 ?_
  refine xas ?_
  refine xas ?_
  refine EOps_nil ?_
  refine E_seq ?_
  refine E_seq ?_
  refine e_tidy_A37_2 [0,1,2,3,4,5,6] ?_
  refine E_region' (L:=[0,1,2,3,4,5,6,7,8,9,10,11,12,13,14,15,16,17,18,19,20]) rfl ?_
  refine l_ rfl (L_load rfl (xb0 ty_49)) ?_
  refine x_call rfl rfl rfl rfl rfl ca_39 (c_spec_IsCracker c) ?_
  rintro r S ⟨rfl,rfl⟩
  refine p_ rfl (L_not rfl rfl) ?_
  refine xmv ?_
  refine EOps_split 15 (b:=_) rfl (fun hg15=>?_) (fun hg15=>?_)
  · simp [hc] at hg15
  refine l_ rfl (L_load rfl (xb3 ty_104)) ?_
  refine x_call rfl rfl rfl rfl rfl ca_153 (c_spec_IsItem x) ?_
  rintro r S ⟨rfl,rfl⟩
  refine p_ rfl (L_not rfl rfl) ?_
  refine p_ rfl (L_pick rfl rfl) ?_
  refine xmv ?_
  refine EOps_split 20 (b:=_) rfl (fun hg20=>?_) (fun hg20=>?_)
  · simp [hx] at hg20
  refine l_ rfl (L_load rfl (xb3 ty_49)) ?_
  refine p_ rfl (l_field rfl fo_104_1) ?_
  refine l_ rfl (L_load rfl (xb0 ty_3)) ?_
  refine x_call rfl rfl rfl rfl rfl ca_150 (c_spec_FindRow c x.2 (by omega)) ?_
  rintro r S ⟨rfl,rfl⟩
  refine p_ rfl (L_bin rfl rfl rfl rfl) ?_
  refine p_ rfl (L_pick rfl rfl) ?_
  refine xmv ?_
  refine EOps_split 27 (b:=_) rfl (fun hg27=>?_) (fun hg27=>?_)
  · simp [hno] at hg27
  refine p_ rfl (l_field rfl fo_49_0) ?_
  refine l_ rfl (L_load rfl (xb0 ty_22)) ?_
  refine p_ rfl (l_len rfl sl_22) ?_
  refine p_ rfl (L_bin rfl rfl rfl rfl) ?_
  refine p_ rfl (L_pick rfl rfl) ?_
  refine EOps_nil ?_
  refine E_cond rfl (fun hc32=>?_) (fun hc32=>?_)
  · simp [ints_len] at hc32;omega
  refine E_skip ?_
  refine E_seq ?_
  refine e_tidy_A37_2 [0,1,2,3,4,5,6,32] ?_
  refine E_region' (L:=[0,1,2,3]) rfl ?_
  refine l_ rfl (L_load rfl (xb0 ty_49)) ?_
  refine x_call rfl rfl rfl rfl rfl ca_99 (c_spec_l4Copy c (by omega)) ?_
  rintro r S ⟨rfl,rfl⟩
  refine x_alloc rfl rfl rfl rfl za_49 ?_
  refine EOps_go rfl rfl (EOp_store rfl rfl rfl (xb1 ty_49) ?_)
  refine EOps_nil ?_
  refine E_seq ?_
  refine E_region' (L:=[0,1,2,3,4,5]) rfl ?_
  refine p_ rfl (l_field rfl fo_49_0) ?_
  refine l_ rfl (L_load rfl (xb0 ty_22)) ?_
  refine EOps_go rfl rfl (Heavy.op (H_bslice_ro rfl rfl (by decide) sl_22 ty_3 za_3 ⟨rfl,by decide⟩ (by decide) rfl rfl rfl rfl ?_))
  refine EOps_go rfl rfl (EOp_append (news:=ints [0]) rfl rfl (by decide) sl_22 ty_3 by_3 za_3 ⟨rfl,by decide⟩ rfl (by first|rfl|assumption) xb6 xb7 xb8 xb9 ?_)
  refine p_ rfl (l_field rfl fo_49_0) ?_
  refine EOps_go rfl rfl (EOp_store rfl rfl rfl (xb1 ty_22) ?_)
  refine EOps_nil ?_
  refine E_seq ?_
  refine E_region' (L:=[0,1,2,3,4,5]) rfl ?_
  refine p_ rfl (l_field rfl fo_49_1) ?_
  refine l_ rfl (L_load rfl (xb0 ty_22)) ?_
  refine EOps_go rfl rfl (Heavy.op (H_bslice_ro rfl rfl (by decide) sl_22 ty_3 za_3 ⟨rfl,by decide⟩ (by decide) rfl rfl rfl rfl ?_))
  refine EOps_go rfl rfl (EOp_append (news:=ints [0]) rfl rfl (by decide) sl_22 ty_3 by_3 za_3 ⟨rfl,by decide⟩ rfl (by first|rfl|assumption) xb6 xb7 xb8 xb9 ?_)
  refine p_ rfl (l_field rfl fo_49_1) ?_
  refine EOps_go rfl rfl (EOp_store rfl rfl rfl (xb1 ty_22) ?_)
  refine EOps_nil ?_
  refine E_seq ?_
  refine E_region' (L:=[0,1,2,3]) rfl ?_
  refine p_ rfl (l_field rfl fo_49_0) ?_
  refine l_ rfl (L_load rfl (xb0 ty_22)) ?_
  refine p_ rfl (l_len rfl sl_22) ?_
  refine xas ?_
  refine EOps_nil ?_
  refine E_seq ?_
  refine E_region' (L:=[0]) rfl ?_
  refine xas ?_
  refine EOps_nil ?_
  refine E_seq ?_
  refine E_seq ?_
  refine E_region' (L:=[0,1,2,3,4]) rfl ?_
  refine p_ rfl (l_field rfl fo_49_2) ?_
  refine l_ rfl (L_load rfl (xb0 ty_47)) ?_
  refine p_ rfl (l_len rfl sl_47) ?_
  refine p_ rfl xb5 ?_
  refine xas ?_
  refine EOps_nil ?_
  refine E_block ?_
  refine e_for_A37_3 (α:=Nat × List (Int × Int) × List (Int × Int) × Nat × Int) [0,1,2,3,4,5,6,7,32] (fun (k,Z,P,h,mv)=>[(10,.c (.sc (.int .i64 (((k:Int) - 1))))),(8,.c (.sc (.int .i64 ((h:Int))))),(9,.c (.sc (.int .i64 (mv)))),(11,.any)]) (fun (k,Z,P,h,mv)=>[.box (crkC c),.box [.sc (.int .i64 x.1),.sc (.int .i64 x.2)],_,.row 3 1 (ints (Z.map (·.1))),.row 3 1 (ints (Z.map (·.2))),.row 151 2 (pairs P),.box [.sl 3 0 (c.vals.length+1) (c.vals.length+1),.sl 4 0 (c.vals.length+1) (c.vals.length+1),.sl 5 0 c.piv.length c.piv.length]]) (fun (k,Z,P,h,mv)=>insZ x.1 k Z P h mv=insR c x (0,0)∧InsI c.piv P (zpC c) x.1 k Z h∧0≤mv∧mv≤(c.piv.length:Int) - k) (fun (k,Z,P,h,mv)=>k) ((c.piv.length,zpC c++[(0,0)],c.piv,c.vals.length,0)) ?_ (by dsimp only;rw [List.map_append,List.map_append,zpC_1 hok.rl,zpC_2 hok.rl,← ints_app,← ints_app,← hok.rl];rfl) ⟨.inr (int_eq (by first|rfl|rw [pairs_len]|(dsimp only;rw [pairs_len]))),.inr (int_eq (by first|rfl|rw [ints_len]|(dsimp only;rw [ints_len]))),.inr rfl,.inl rfl,trivial⟩ ?_
  · exact⟨rfl,insI0 hok (0,0),by first|omega|(dsimp only;omega),by first|omega|(dsimp only;omega)⟩
  rintro⟨k,Z,P,h,mv⟩ ⟨hgo,I,hmv0,hmv1⟩
  dsimp only at *
  have hZ:Z.length=c.vals.length+1:=by rw [I.zl,hz]
  have hP:P.length=c.piv.length:=I.pl
  have hPl:(pairs P).length=c.piv.length:=by rw [pairs_len];exact hP
  have hkl:=I.kl
  have hhn:=I.hn
  refine E_seq ?_
  refine E_seq ?_
  refine E_drawT mixed ?_
  refine tj_ 0 rfl (L_move rfl) ?_
  refine tj_ 1 rfl (L_bin rfl rfl rfl rfl) ?_
  refine tj_ 2 rfl (L_move rfl) ?_
  refine T_split 56 (b:=_) rfl rfl (fun hg56=>?_) (fun hg56=>?_)
  · obtain ⟨k', rfl⟩ : ∃ k', k = k' + 1 := ⟨k - 1, by simp at hg56; omega⟩
    obtain⟨⟨p1,p2⟩,hp⟩:=at_lt (l:=c.piv) (k:=k') (by omega)
    obtain⟨a,rfl⟩:∃ a:Nat,p2=a:=⟨p2.toNat,by have:=hb _ (List.mem_of_getElem? hp);dsimp only at this;omega⟩
    have hpb:=hb _ (List.mem_of_getElem? hp)
    have hpP:P[k']? = some (p1,(a:Int)):=by rw [I.lo k' (by omega)];exact hp
    have hix:(((k'+1:Nat):Int) - 1).toNat=k':=by omega
    have hpQ:P[(((k'+1:Nat):Int) - 1).toNat]? = some (p1,(a:Int)):=by rw [hix];exact hpP
    refine tj_ 3 rfl (l_field rfl fo_49_2) ?_
    refine tl_ 4 rfl (L_load rfl (xb0 ty_47)) ?_
    refine tj_ 5 rfl (L_move rfl) ?_
    refine tj_ 6 rfl (L_index rfl rfl (xii sl_47 ty_151)) ?_
    refine tj_ 7 rfl (l_field rfl fo_151_0) ?_
    refine tl_ 8 rfl (L_load rfl (xb0 ty_3)) ?_
    refine tj_ 9 rfl (l_field rfl fo_104_0) ?_
    refine tl_ 10 rfl (L_load rfl (xb0 ty_3)) ?_
    refine tj_ 11 rfl (L_bin rfl rfl rfl rfl) ?_
    refine tj_ 12 rfl (L_pick rfl rfl) ?_
    refine T_done (by kernel_rfl) ?_
    refine E_cond rfl (fun hc66=>?_) (fun hc66=>?_)
    · have hlt : x.1 < p1 := by simpa using hc66
      have hst:=insI_step hok.so hb I hp hlt
      rw [insZ_go hpP hlt] at hgo
      have hmb:=mvN_bd h a
      refine E_skip ?_
      refine E_seq ?_
      refine E_block ?_
      refine E_seq ?_
      refine E_region' (L:=[0,1,2,3,4,5,6]) rfl ?_
      refine p_ rfl (l_field rfl fo_49_2) ?_
      refine l_ rfl (L_load rfl (xb0 ty_47)) ?_
      refine xmv ?_
      refine p_ rfl (L_index rfl rfl (xii sl_47 ty_151)) ?_
      refine p_ rfl (l_field rfl fo_151_1) ?_
      refine l_ rfl (L_load rfl (xb0 ty_3)) ?_
      refine xas ?_
      refine EOps_nil ?_
      refine E_seq ?_
      refine e_tidy_A37_2 [0,1,2,3,4,5,6,7,8,9,10,11,32,66] ?_
      refine E_region' (L:=[0,1,2,3,4,5]) rfl ?_
      refine xmv ?_
      refine xmv ?_
      refine xmv ?_
      refine x_frame [6,3,4,5] rfl rfl rfl rfl rfl ca_204 rfl (c_spec_l10Move Z P h a (c.vals.length+1) c.piv.length hZ hP (by omega) (by omega)) ?_
      rintro r S ⟨r0,S0,⟨rfl,rfl⟩,rfl,rfl⟩
      refine p_ rfl xb2 ?_
      refine xas ?_
      refine EOps_nil ?_
      refine E_seq ?_
      refine E_region' (L:=[0,1]) rfl ?_
      refine xmv ?_
      refine xas ?_
      refine EOps_nil ?_
      refine E_region' (L:=[0,1,2,3,4,5,6,7]) rfl ?_
      refine p_ rfl (l_field rfl fo_49_2) ?_
      refine l_ rfl (L_load rfl (xb0 ty_47)) ?_
      refine xmv ?_
      refine xmv ?_
      refine p_ rfl xb2 ?_
      refine p_ rfl (L_index rfl rfl (xii sl_47 ty_151)) ?_
      refine p_ rfl (l_field rfl fo_151_1) ?_
      refine EOps_go rfl rfl (EOp_store rfl rfl rfl (xb1 ty_3) ?_)
      refine EOps_nil ?_
      refine E_region' (L:=[0,1,2]) rfl ?_
      refine xmv ?_
      refine p_ rfl xb5 ?_
      refine xas ?_
      refine EOps_nil ?_
      refine⟨(k',mvZ Z h a,P.set k' (p1,(a:Int)+1),a,mv+mvN h a),?_,?_,(by rw [← pairs_set,hix,Nat.zero_add k'];rfl),⟨.inr (int_eq (by first|omega|(dsimp only;omega))),.inr rfl,.inr rfl,.inl rfl,trivial⟩,⟨.inr rfl,.inr rfl,.inr rfl,.inr rfl,.inr rfl,.inr rfl,.inr rfl,.inr rfl,.inr rfl,trivial⟩⟩
      · first|omega|(dsimp only;omega)|(simp;omega)
      exact⟨hgo,hst,by dsimp only;omega,by dsimp only;omega⟩
    have hend : insR c x (0, 0) = (Z, P, h, mv) := by
      first
        | exact hend
        | (have hge : ¬ x.1 < p1 := by simpa using hc66
           exact hgo.symm.trans (insZ_stop hpP hge))
    refine E_exit ?_
    refine E_seq ?_
    have hV:(ints (Z.map (·.1))).length=c.vals.length+1:=by rw [ints_len,List.length_map];exact hZ
    have hW:(ints (Z.map (·.2))).length=c.vals.length+1:=by rw [ints_len,List.length_map];exact hZ
    obtain⟨z0,hz0⟩:=at_lt (l:=Z) (k:=h) (by omega)
    have hv0:(Z.map (·.1))[h]? = some z0.1:=by rw [List.getElem?_map,hz0];rfl
    have hw0:(Z.map (·.2))[h]? = some z0.2:=by rw [List.getElem?_map,hz0];rfl
    refine E_region' (L:=[0,1,2,3,4,5,6]) rfl ?_
    refine p_ rfl (l_field rfl fo_49_0) ?_
    refine l_ rfl (L_load rfl (xb0 ty_22)) ?_
    refine xmv ?_
    refine p_ rfl (l_field rfl fo_104_0) ?_
    refine l_ rfl (L_load rfl (xb0 ty_3)) ?_
    refine p_ rfl (L_index rfl rfl (xii sl_22 ty_3)) ?_
    refine EOps_go rfl rfl (EOp_store rfl rfl rfl (xb1 ty_3) ?_)
    refine EOps_nil ?_
    refine E_seq ?_
    refine E_region' (L:=[0,1,2,3,4,5,6]) rfl ?_
    refine p_ rfl (l_field rfl fo_49_1) ?_
    refine l_ rfl (L_load rfl (xb0 ty_22)) ?_
    refine xmv ?_
    refine p_ rfl (l_field rfl fo_104_1) ?_
    refine l_ rfl (L_load rfl (xb0 ty_3)) ?_
    refine p_ rfl (L_index rfl rfl (xii sl_22 ty_3)) ?_
    refine EOps_go rfl rfl (EOp_store rfl rfl rfl (xb1 ty_3) ?_)
    refine EOps_nil ?_
    refine E_seq ?_
    refine E_region' (L:=[0,1,2,3,4]) rfl ?_
    refine l_ rfl (L_load rfl (xb0 ty_49)) ?_
    refine xmv ?_
    refine EOps_go rfl rfl (EOp_store rfl rfl rfl (xb1 ty_49) ?_)
    refine xas ?_
    refine xas ?_
    refine EOps_nil ?_
    refine E_ret ?_
    obtain⟨e1,e2⟩:=ripI_eq hok.rl hend
    rw [e1,e2]
    refine⟨_,[3,4,5],rfl,rfl,?_,?_⟩
    · simp only [crkO,crkZ,List.length_map,List.length_set,hZ,hP];rfl
    simp only [crkR, crkZ, List.map_set]
    rw [← ints_set,← ints_set];simp only [Int.toNat_natCast,Nat.zero_add];rfl
  have hk0 : k = 0 := by simp at hg56; omega
  subst hk0
  have hend:insR c x (0,0)=(Z,P,h,mv):=hgo.symm
  refine tk_ 3 rfl ?_
  refine tk_ 4 rfl ?_
  refine tk_ 5 rfl ?_
  refine tk_ 6 rfl ?_
  refine tk_ 7 rfl ?_
  refine tk_ 8 rfl ?_
  refine tk_ 9 rfl ?_
  refine tk_ 10 rfl ?_
  refine tk_ 11 rfl ?_
  refine tj_ 12 rfl (L_pick rfl rfl) ?_
  refine T_done (by kernel_rfl) ?_
  refine E_cond rfl (fun hc66=>?_) (fun hc66=>?_)
  · exact Bool.noConfusion (hc66:false=true)
  have hend : insR c x (0, 0) = (Z, P, h, mv) := by
    first
      | exact hend
      | (have hge : ¬ x.1 < p1 := by simpa using hc66
         exact hgo.symm.trans (insZ_stop hpP hge))
  refine E_exit ?_
  refine E_seq ?_
  have hV:(ints (Z.map (·.1))).length=c.vals.length+1:=by rw [ints_len,List.length_map];exact hZ
  have hW:(ints (Z.map (·.2))).length=c.vals.length+1:=by rw [ints_len,List.length_map];exact hZ
  obtain⟨z0,hz0⟩:=at_lt (l:=Z) (k:=h) (by omega)
  have hv0:(Z.map (·.1))[h]? = some z0.1:=by rw [List.getElem?_map,hz0];rfl
  have hw0:(Z.map (·.2))[h]? = some z0.2:=by rw [List.getElem?_map,hz0];rfl
  refine E_region' (L:=[0,1,2,3,4,5,6]) rfl ?_
  refine p_ rfl (l_field rfl fo_49_0) ?_
  refine l_ rfl (L_load rfl (xb0 ty_22)) ?_
  refine xmv ?_
  refine p_ rfl (l_field rfl fo_104_0) ?_
  refine l_ rfl (L_load rfl (xb0 ty_3)) ?_
  refine p_ rfl (L_index rfl rfl (xii sl_22 ty_3)) ?_
  refine EOps_go rfl rfl (EOp_store rfl rfl rfl (xb1 ty_3) ?_)
  refine EOps_nil ?_
  refine E_seq ?_
  refine E_region' (L:=[0,1,2,3,4,5,6]) rfl ?_
  refine p_ rfl (l_field rfl fo_49_1) ?_
  refine l_ rfl (L_load rfl (xb0 ty_22)) ?_
  refine xmv ?_
  refine p_ rfl (l_field rfl fo_104_1) ?_
  refine l_ rfl (L_load rfl (xb0 ty_3)) ?_
  refine p_ rfl (L_index rfl rfl (xii sl_22 ty_3)) ?_
  refine EOps_go rfl rfl (EOp_store rfl rfl rfl (xb1 ty_3) ?_)
  refine EOps_nil ?_
  refine E_seq ?_
  refine E_region' (L:=[0,1,2,3,4]) rfl ?_
  refine l_ rfl (L_load rfl (xb0 ty_49)) ?_
  refine xmv ?_
  refine EOps_go rfl rfl (EOp_store rfl rfl rfl (xb1 ty_49) ?_)
  refine xas ?_
  refine xas ?_
  refine EOps_nil ?_
  refine E_ret ?_
  obtain⟨e1,e2⟩:=ripI_eq hok.rl hend
  rw [e1,e2]
  refine⟨_,[3,4,5],rfl,rfl,?_,?_⟩
  · simp only [crkO,crkZ,List.length_map,List.length_set,hZ,hP];rfl
  simp only [crkR, crkZ, List.map_set]
  rw [← ints_set,← ints_set];simp only [Int.toNat_natCast,Nat.zero_add];rfl

end Go.Proofs.YtlodlnbhjghjoaaGreat.E
