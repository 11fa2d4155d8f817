/- Walks through functions, by program out of the session's annotations. -/
import Derived.Test.YtlodlnbhjghjoaaGreatA184
namespace Go.Proofs.YtlodlnbhjghjoaaGreat.E
open Go Go.RowKit Go.Proofs
set_option linter.unusedVariables false
set_option linter.unusedSimpArgs false

set_option maxRecDepth 20000 in
set_option maxHeartbeats 8000000 in
theorem c_impl_LedgerOf (xs : List Int) (s : Sett) (rs : List (Int × Int)) : EFn Tryz.prog 17 [.c (.ro (ints xs)), .agg (setC s), .c (.ro (pairs rs))] [] (fun y S => y = .c (.sl 0 0 (ledL xs s rs).length (ledL xs s rs).length) ∧ S = [.row 124 5 (quints (ledL xs s rs))]) := by
 refine E_fn Tryz.func17 rfl (Nat.le_of_ble_eq_true rfl) ?_
 refine E_G (n:=0) rfl ?_
 refine G_seq ?_
 refine G_region' (L:=[0,1]) rfl ?_
 refine x_box rfl rfl rfl rfl rfl ?_
 refine xas ?_
 refine EOps_nil ?_
 refine G_seq ?_
 refine G_seq ?_
 refine g_tidy_A37_0 [0,1,2,4,6] ?_
 refine G_region' (L:=[0,1,2,3,4]) rfl ?_
 refine xmv ?_
 refine l_ rfl (L_load rfl (xb0 ty_30)) ?_
 refine xmv ?_
 refine x_call rfl rfl rfl rfl rfl ca_92 (c_impl_areQueries xs s rs) ?_
 rintro r S ⟨rfl,rfl⟩
 refine p_ rfl (L_not rfl rfl) ?_
 refine EOps_nil ?_
 refine G_cond rfl (fun hc12=>?_) (fun hc12=>?_)
 ·have hL : ledL xs s rs = [] := by
   have h:areQ xs s rs=false:=by simpa using hc12
   simp [ledL,h]
  refine G_seq ?_
  refine G_region' (L:=[0]) rfl ?_
  refine xas ?_
  refine EOps_nil ?_
  refine G_ghostS 6 124 5 rfl (by decide) ?_
  refine G_ret ?_
  rw [hL]
  exact⟨_,[1],rfl,rfl,rfl,rfl⟩
 have hq : areQ xs s rs = true := by simpa using hc12
 have hL:ledL xs s rs=(ledN xs s rs rs.length).2.2:=by simp [ledL,hq]
 obtain⟨q1,q2,q3,q4⟩:=areQ_parts hq
 refine G_skip ?_
 refine G_seq ?_
 refine G_region' (L:=[0,1,2]) rfl ?_
 refine EOps_go rfl rfl (Heavy.op (H_bslice rfl rfl (by decide) sl_27 ty_124 za_124 ⟨rfl,by decide⟩ (by decide) rfl rfl rfl rfl ?_))
 refine x_alloc rfl rfl rfl rfl za_27 ?_
 refine EOps_go rfl rfl (EOp_store rfl rfl rfl (xb1 ty_27) ?_)
 refine EOps_nil ?_
 refine G_seq ?_
 refine g_tidy_A37_0 [0,1,2,4,6,7,12] ?_
 refine G_region' (L:=[0,1,2,3,4]) rfl ?_
 refine xmv ?_
 refine l_ rfl (L_load rfl (xb0 ty_30)) ?_
 refine xmv ?_
 refine p_ rfl (L_func rfl rfl) ?_
 refine x_frame [2,1] rfl rfl rfl rfl rfl ca_93 rfl (c_impl_queriesB xs s rs q1 q2 q3 q4) ?_
 rintro r S ⟨r0,S0,⟨rfl,rfl⟩,rfl,rfl⟩
 refine EOps_nil ?_
 refine G_seq ?_
 refine G_region' (L:=[0,1]) rfl ?_
 refine l_ rfl (L_load rfl (xb0 ty_27)) ?_
 refine xas ?_
 refine EOps_nil ?_
 refine G_ret ?_
 rw [hL]
 exact⟨_,[1],rfl,rfl,rfl,rfl⟩

set_option maxRecDepth 20000 in
set_option maxHeartbeats 8000000 in
theorem c_spec_LedgerOf (xs : List Int) (s : Sett) (rs : List (Int × Int)) : EFn Tryz.prog 13 [.c (.ro (ints xs)), .agg (setC s), .c (.ro (pairs rs))] [] (fun y S => y = .c (.sl 0 0 (ledL xs s rs).length (ledL xs s rs).length) ∧ S = [.row 124 5 (quints (ledL xs s rs))]) := by
 refine E_fn Tryz.func13 rfl (Nat.le_of_ble_eq_true rfl) ?_
 refine E_G (n:=0) rfl ?_
 refine G_seq ?_
 refine G_region' (L:=[0,1]) rfl ?_
 refine x_box rfl rfl rfl rfl rfl ?_
 refine xas ?_
 refine EOps_nil ?_
 refine G_seq ?_
 refine G_region' (L:=[0,1,2]) rfl ?_
 refine EOps_go rfl rfl (Heavy.op (H_bslice rfl rfl (by decide) sl_27 ty_124 za_124 ⟨rfl,by decide⟩ (by decide) rfl rfl rfl rfl ?_))
 refine x_alloc rfl rfl rfl rfl za_27 ?_
 refine EOps_go rfl rfl (EOp_store rfl rfl rfl (xb1 ty_27) ?_)
 refine EOps_nil ?_
 refine G_seq ?_
 refine G_seq ?_
 refine g_tidy_A37_0 [0,1,2,4,6,7] ?_
 refine G_region' (L:=[0,1,2,3,4,5,6,7,8,9,10,11,12]) rfl ?_
 refine xmv ?_
 refine x_call rfl rfl rfl rfl rfl ca_89 (c_spec_AreValues xs) ?_
 rintro r S ⟨rfl,rfl⟩
 refine p_ rfl (L_not rfl rfl) ?_
 refine xmv ?_
 refine EOps_split 15 (b:=_) rfl (fun hg15=>?_) (fun hg15=>?_)
 ·refine s_ rfl ?_
  refine s_ rfl ?_
  refine s_ rfl ?_
  refine p_ rfl (L_pick rfl rfl) ?_
  refine xmv ?_
  refine s_ rfl ?_
  refine s_ rfl ?_
  refine s_ rfl ?_
  refine p_ rfl (L_pick rfl rfl) ?_
  refine EOps_nil ?_
  refine G_cond rfl (fun hc24=>?_) (fun hc24=>?_)
  ·have hL : ledL xs s rs = [] := by
    have h:areQ xs s rs=false:=by simp only [areQ];simp_all
    simp [ledL,h]
   refine G_seq ?_
   refine G_region' (L:=[0,1]) rfl ?_
   refine l_ rfl (L_load rfl (xb0 ty_27)) ?_
   refine xas ?_
   refine EOps_nil ?_
   refine G_ret ?_
   rw [hL]
   exact⟨_,[1],rfl,rfl,rfl,rfl⟩
  exact Bool.noConfusion (hc24:true=false)
 refine l_ rfl (L_load rfl (xb2 ty_30)) ?_
 refine x_call rfl rfl rfl rfl rfl ca_40 (c_spec_IsSettings s) ?_
 rintro r S ⟨rfl,rfl⟩
 refine p_ rfl (L_not rfl rfl) ?_
 refine p_ rfl (L_pick rfl rfl) ?_
 refine xmv ?_
 refine EOps_split 20 (b:=_) rfl (fun hg20=>?_) (fun hg20=>?_)
 ·refine s_ rfl ?_
  refine s_ rfl ?_
  refine s_ rfl ?_
  refine p_ rfl (L_pick rfl rfl) ?_
  refine EOps_nil ?_
  refine G_cond rfl (fun hc24=>?_) (fun hc24=>?_)
  ·have hL : ledL xs s rs = [] := by
    have h:areQ xs s rs=false:=by simp only [areQ];simp_all
    simp [ledL,h]
   refine G_seq ?_
   refine G_region' (L:=[0,1]) rfl ?_
   refine l_ rfl (L_load rfl (xb0 ty_27)) ?_
   refine xas ?_
   refine EOps_nil ?_
   refine G_ret ?_
   rw [hL]
   exact⟨_,[1],rfl,rfl,rfl,rfl⟩
  exact Bool.noConfusion (hc24:true=false)
 refine xmv ?_
 refine x_call rfl rfl rfl rfl rfl ca_90 (c_spec_l8Ranges rs) ?_
 rintro r S ⟨rfl,rfl⟩
 refine p_ rfl (L_not rfl rfl) ?_
 refine p_ rfl (L_pick rfl rfl) ?_
 refine EOps_nil ?_
 refine G_cond rfl (fun hc24=>?_) (fun hc24=>?_)
 ·have hL : ledL xs s rs = [] := by
   have h:areQ xs s rs=false:=by simp only [areQ];simp_all
   simp [ledL,h]
  refine G_seq ?_
  refine G_region' (L:=[0,1]) rfl ?_
  refine l_ rfl (L_load rfl (xb0 ty_27)) ?_
  refine xas ?_
  refine EOps_nil ?_
  refine G_ret ?_
  rw [hL]
  exact⟨_,[1],rfl,rfl,rfl,rfl⟩
 have hq : areQ xs s rs = true := by simp only [areQ]; simp_all
 have hL:ledL xs s rs=(ledN xs s rs rs.length).2.2:=by simp [ledL,hq]
 obtain⟨q1,q2,q3,q4⟩:=areQ_parts hq
 have hxl:=areVals_parts q1
 refine G_skip ?_
 refine G_seq ?_
 refine g_tidy_A37_0 [0,1,2,4,6,7,24] ?_
 refine G_region' (L:=[0,1,2,3]) rfl ?_
 refine xmv ?_
 refine x_call rfl rfl rfl rfl rfl ca_59 (c_spec_NewCracker xs (by omega)) ?_
 rintro r S ⟨rfl,rfl⟩
 refine x_alloc rfl rfl rfl rfl za_49 ?_
 refine EOps_go rfl rfl (EOp_store rfl rfl rfl (xb1 ty_49) ?_)
 refine EOps_nil ?_
 refine G_seq ?_
 refine G_region' (L:=[0,1,2]) rfl ?_
 refine l_ rfl (L_load rfl (xb0 ty_30)) ?_
 refine x_alloc rfl rfl rfl rfl za_30 ?_
 refine EOps_go rfl rfl (EOp_store rfl rfl rfl (xb1 ty_30) ?_)
 refine EOps_nil ?_
 refine G_seq ?_
 refine G_seq ?_
 refine G_region' (L:=[0]) rfl ?_
 refine xas ?_
 refine EOps_nil ?_
 refine G_block ?_
 refine G_drop [0,1,2,4,6,7,8,9,10] [2,1,0,6,7,3,4,5] rfl rfl rfl ?_
 refine g_forD_A37_1 (α:=Nat × Crk × Sett × List Qn) [0,1,2,4,6,7,8,9,24] (fun (k,cur,st,l1)=>[(10,.c (.sc (.int .i64 (k))))]) (fun (k,cur,st,l1)=>[.box [.sl 1 0 l1.length l1.length],.row 124 5 (quints l1),.box (setC s),.box (crkO 5 cur),.box (setC st),.row 3 1 (ints cur.vals),.row 3 1 (ints cur.rows),.row 151 2 (pairs cur.piv)]) (fun (k,cur,st,l1)=>k≤rs.length∧ledN xs s rs k=(cur,st,l1)) (fun (k,cur,st,l1)=>rs.length - k) ((0,newCrk xs,s,[])) ?_ (rfl) ⟨.inr rfl,trivial⟩ ?_
 ·exact⟨Nat.zero_le _,rfl⟩
 rintro⟨k,cur,st,l1⟩ ⟨hk,hst⟩
 dsimp only at *
 refine G_seq ?_
 refine G_seq ?_
 refine G_region' (L:=[0,1,2,3]) rfl ?_
 refine xmv ?_
 refine xmv ?_
 refine p_ rfl (l_len rfl sl_32) ?_
 refine p_ rfl (L_bin rfl rfl rfl rfl) ?_
 refine EOps_nil ?_
 refine G_cond rfl (fun hc32=>?_) (fun hc32=>?_)
 ·have hc32' : k < (rs).length := by simpa [ints_len, bools_len, pairs_len, quads_len, quints_len] using hc32
  obtain⟨r,hrk⟩:∃ x,(rs)[k]? = some x:=⟨_,List.getElem?_eq_getElem hc32'⟩
  have okc:=(ld_at q1 q2 q4 hk hst).1
  have oks:=(ld_at q1 q2 q4 hk hst).2.1
  have okl:=(ld_at q1 q2 q4 hk hst).2.2
  have hnx:=ld_next hrk hst
  have hrr:=q4 r (List.mem_of_getElem? hrk)
  obtain⟨b1,b2⟩:=rng_bnd hrr
  have hw:=lw_ok (q:=(k:Nat)) okc oks hrr okl
  refine G_skip ?_
  refine G_seq ?_
  refine G_block ?_
  refine G_seq ?_
  refine g_tidy_A37_0 [0,1,2,4,6,7,8,9,10,24,32] ?_
  refine G_drawT mixed ?_
  refine tl_ 0 rfl (L_load rfl (xb0 ty_49)) ?_
  refine tl_ 1 rfl (L_load rfl (xb0 ty_30)) ?_
  refine tj_ 2 rfl (L_move rfl) ?_
  refine tj_ 3 rfl (L_move rfl) ?_
  refine tj_ 4 rfl (L_index rfl rfl (xii sl_32 ty_53)) ?_
  refine tj_ 5 rfl (l_field rfl fo_53_0) ?_
  refine tl_ 6 rfl (L_load rfl (xb0 ty_3)) ?_
  refine tj_ 7 rfl (L_move rfl) ?_
  refine t_frame 8 [0,1,5,6,7] rfl rfl rfl rfl rfl ca_91 rfl (c_spec_l7With (k:Nat) cur st r.1 l1 (16002*k) okc oks b1 okl (by omega)) ?_
  rintro r S ⟨r0,S0,⟨rfl,rfl⟩,rfl,rfl⟩
  rw [show withW (k:Nat) cur st r.1 l1=lw1 (k:Nat) cur st r l1 from rfl]
  refine tp_ 9 rfl (L_move rfl) ?_
  refine tp_ 10 rfl (L_extract rfl rfl) ?_
  refine tp_ 11 rfl (L_extract rfl rfl) ?_
  refine t_turn 12 rfl rfl (EOp_store rfl rfl rfl (xb1 ty_49) ?_)
  refine t_turn 13 rfl rfl (EOp_store rfl rfl rfl (xb1 ty_30) ?_)
  refine T_done (by kernel_rfl) ?_
  refine g_tidy_A37_0 [0,1,2,4,6,7,8,9,10,24,32] ?_
  refine G_drawT mixed ?_
  refine tl_ 0 rfl (L_load rfl (xb0 ty_49)) ?_
  refine tl_ 1 rfl (L_load rfl (xb0 ty_30)) ?_
  refine tj_ 2 rfl (L_move rfl) ?_
  refine tj_ 3 rfl (L_move rfl) ?_
  refine tj_ 4 rfl (L_index rfl rfl (xii sl_32 ty_53)) ?_
  refine tj_ 5 rfl (l_field rfl fo_53_1) ?_
  refine tl_ 6 rfl (L_load rfl (xb0 ty_3)) ?_
  refine tj_ 7 rfl (L_move rfl) ?_
  refine t_frame 8 [0,1,8,9,10] rfl rfl rfl rfl rfl ca_91 rfl (c_spec_l7With (k:Nat) (lw1 (k:Nat) cur st r l1).1 (lw1 (k:Nat) cur st r l1).2.1 r.2 (lw1 (k:Nat) cur st r l1).2.2 (16002*k+8001) hw.c1 hw.s1 b2 hw.l1 (by omega)) ?_
  rintro r S ⟨r0,S0,⟨rfl,rfl⟩,rfl,rfl⟩
  rw [show withW (k:Nat) (lw1 (k:Nat) cur st r l1).1 (lw1 (k:Nat) cur st r l1).2.1 r.2 (lw1 (k:Nat) cur st r l1).2.2=lw2 (k:Nat) cur st r l1 from rfl,← hnx]
  generalize hN:ledN xs s rs (k+1)=P at *
  obtain⟨c2,st2,l2⟩:=P
  dsimp only at *
  refine tp_ 9 rfl (L_move rfl) ?_
  refine tp_ 10 rfl (L_extract rfl rfl) ?_
  refine tp_ 11 rfl (L_extract rfl rfl) ?_
  refine t_turn 12 rfl rfl (EOp_store rfl rfl rfl (xb1 ty_49) ?_)
  refine t_turn 13 rfl rfl (EOp_store rfl rfl rfl (xb1 ty_30) ?_)
  refine T_done (by kernel_rfl) ?_
  refine G_region' (L:=[0,1,2]) rfl ?_
  refine xmv ?_
  refine p_ rfl xb3 ?_
  refine xas ?_
  refine EOps_nil ?_
  refine⟨[0,1,2,3,4,11,12,13],rfl,(k+1,c2,st2,l2),?_,?_,rfl,⟨.inr rfl,trivial⟩,⟨.inr rfl,.inr rfl,.inr rfl,.inr rfl,.inr rfl,.inr rfl,.inr rfl,.inr rfl,.inr rfl,trivial⟩⟩
  ·first|omega|(dsimp only;omega)|(simp;omega)
  exact⟨by omega,hN⟩
 have hk' : rs.length ≤ k := by simpa [pairs_len] using hc32
 obtain rfl:k=rs.length:=by omega
 refine G_exit ?_
 refine G_seq ?_
 refine G_region' (L:=[0,1]) rfl ?_
 refine l_ rfl (L_load rfl (xb0 ty_27)) ?_
 refine xas ?_
 refine EOps_nil ?_
 refine G_ret ?_
 rw [hL,hst]
 exact⟨_,[1],rfl,rfl,rfl,rfl⟩

end Go.Proofs.YtlodlnbhjghjoaaGreat.E
