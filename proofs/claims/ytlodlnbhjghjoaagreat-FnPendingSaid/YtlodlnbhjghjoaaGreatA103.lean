/- Walks through functions, by program out of the session's annotations. -/
import Derived.Test.YtlodlnbhjghjoaaGreatA102
import Derived.Test.YtlodlnbhjghjoaaGreatF4
namespace Go.Proofs.YtlodlnbhjghjoaaGreat.E
open Go Go.RowKit Go.Proofs
set_option linter.unusedVariables false
set_option linter.unusedSimpArgs false

theorem delZ_go {v : Int} {k a f : Nat} {Z P : List (Int × Int)} {h : Nat} {m p1 : Int} (hp : P[k]? = some (p1, (a : Int) + 1)) (hx : ¬ p1 ≤ v) : delZ v (f + 1) k Z P h m = delZ v f (k + 1) (mvZ Z h a) (P.set k (p1, (a : Int) + 1 - 1)) a (m + mvN h a) := by
 rw [delZ,getD_of hp,if_neg hx]
 have e:((a:Int)+1 - 1).toNat=a:=by omega
 dsimp only
 rw [e];rfl
theorem delZ_skip {v : Int} {k f : Nat} {Z P : List (Int × Int)} {h : Nat} {m : Int} {p : Int × Int} (hp : P[k]? = some p) (hx : p.1 ≤ v) : delZ v (f + 1) k Z P h m = delZ v f (k + 1) Z P h m := by
 rw [delZ,getD_of hp,if_pos hx]
theorem delI0 {c : Crk} {h0 : Nat} (hc : CrkOk c) (hh : h0 < c.vals.length) : DelI c.piv c.piv (zpC c) (c.vals.getD h0 0) h0 0 (zpC c) h0 ∧ ∀ p ∈ c.piv, 0 ≤ p.2 ∧ p.2 ≤ (zpC c).length ∧ (c.vals.getD h0 0 < p.1 ↔ (h0 : Int) < p.2) := by
 have hz:(zpC c).length=c.vals.length:=by simp [zpC,hc.rl]
 have hzo:=hc.z
 have hv0 : ∀ z, (zpC c)[h0]? = some z → z.1 = c.vals.getD h0 0 := fun z hz => by
  simp only [zpC] at hz
  rw [List.getElem?_zip_eq_some] at hz
  exact (getD_of hz.1).symm
 obtain⟨z0,hz0⟩:∃ z,(zpC c)[h0]? = some z:=⟨_,List.getElem?_eq_getElem (by omega)⟩
 have hb : ∀ p ∈ c.piv, 0 ≤ p.2 ∧ p.2 ≤ (zpC c).length ∧ (c.vals.getD h0 0 < p.1 ↔ (h0 : Int) < p.2) := fun p hp => by
  obtain⟨_,_,h3,h4,h5⟩:=hzo.pv p hp
  exact⟨h3,h4,by rw [← hv0 z0 hz0];exact h5 h0 z0 hz0⟩
 refine⟨⟨rfl,rfl,⟨Nat.le_refl _,by omega⟩,fun _ _=>rfl,fun j p hj=>by omega,fun j p _ hp hv=>?_,List.Perm.refl _,fun i z hi hzz j p hp=>?_⟩,hb⟩
 ·have:=(hb p (List.mem_of_getElem? hp)).2.2.1 hv;omega
 rw [if_neg (by omega), Int.sub_zero]
 exact (hzo.pv p (List.mem_of_getElem? hp)).2.2.2.2 i z hzz
theorem ripD_eq {c : Crk} {h0 : Nat} {Z P : List (Int × Int)} {h : Nat} {m : Int} (he : delRz c h0 = (Z, P, h, m)) : ripD c h0 = crkZ ((mvZ Z h (c.vals.length - 1)).take (c.vals.length - 1)) P ∧ ripDn c h0 = m + mvN h (c.vals.length - 1) := by
 rw [ripD,ripDn,he]
 exact⟨rfl,rfl⟩
theorem ints_takeM (Z : List (Int × Int)) (n : Nat) : (ints (Z.map (·.1))).take n = ints ((Z.take n).map (·.1)) ∧ (ints (Z.map (·.2))).take n = ints ((Z.take n).map (·.2)) := by
 simp [ints,List.map_take]

set_option maxRecDepth 20000 in
set_option maxHeartbeats 8000000 in
theorem c_impl_RippleDelete (c : Crk) (w : Int) (hc : isCrk c = true) (hw : w ∈ c.rows) : EFn Tryz.prog 148 [.agg (crkC c), .c (.sc (.int .i64 w))] [] (fun r S => r = .tup [(true, crkO 0 (dRow c w)), (false, [.sc (.int .i64 (dRowN c w))]), (false, [.sc (.bool true)])] ∧ S = crkR 3 151 (dRow c w)) := by
 refine E_fn Tryz.func148 rfl (Nat.le_of_ble_eq_true rfl) ?_
 refine E_G (n:=0) rfl ?_
 have hln:=crk_lens hc
 have hok:=(crk_iff c).1 hc
 have hz:(zpC c).length=c.vals.length:=by simp [zpC,hok.rl]
 obtain⟨h0,hi0,hlt0,hr0,hv0,_⟩:=row_place hok.rl hw
 have hva:c.vals.getD h0 0=valAt c w:=getD_of hv0
 obtain⟨I0,hb⟩:=delI0 hok hlt0
 have hd1:dRow c w=ripD c h0:=by rw [dRow,hi0,Int.toNat_natCast]
 have hd2:dRowN c w=ripDn c h0:=by rw [dRowN,hi0,Int.toNat_natCast]
 have hRz:delRz c h0=delZ (valAt c w) c.piv.length 0 (zpC c) c.piv h0 0:=by rw [delRz,hva]
 rw [hva] at I0 hb
 have hln1:((c.vals.length:Nat):Int) - 1=((c.vals.length - 1:Nat):Int):=by omega
 refine G_seq ?_
 refine G_region' (L:=[0,1,2,3]) rfl ?_
 refine x_box rfl rfl rfl rfl rfl ?_
 refine x_alloc rfl rfl rfl rfl za_49 ?_
 refine xas ?_
 refine xas ?_
 refine EOps_nil ?_
 refine G_seq ?_
 refine g_tidy_A37_0 [0,1,2,4,5,6] ?_
 refine G_region' (L:=[0,1,2,3]) rfl ?_
 refine l_ rfl (L_load rfl (xb0 ty_49)) ?_
 refine x_call rfl rfl rfl rfl rfl ca_104 (c_impl_copyCracker c (by omega)) ?_
 rintro r S ⟨rfl,rfl⟩
 refine x_alloc rfl rfl rfl rfl za_49 ?_
 refine EOps_go rfl rfl (EOp_store rfl rfl rfl (xb1 ty_49) ?_)
 refine EOps_nil ?_
 refine G_seq ?_
 refine g_tidy_A37_0 [0,1,2,4,5,6,7] ?_
 refine G_region' (L:=[0,1,2,3]) rfl ?_
 refine l_ rfl (L_load rfl (xb0 ty_49)) ?_
 refine xmv ?_
 refine x_call rfl rfl rfl rfl rfl ca_147 (c_impl_FindRow c w) ?_
 rintro r S ⟨rfl,rfl⟩
 rw [hi0]
 refine xas ?_
 refine EOps_nil ?_
 refine G_seq ?_
 refine G_seq ?_
 refine g_tidy_A37_0 [0,1,2,4,5,6,7,8] ?_
 refine G_region' (L:=[0,1,2,3,4,5,6]) rfl ?_
 refine l_ rfl (L_load rfl (xb0 ty_49)) ?_
 refine x_call rfl rfl rfl rfl rfl ca_46 (c_impl_IsCracker c) ?_
 rintro r S ⟨rfl,rfl⟩
 refine p_ rfl (L_not rfl rfl) ?_
 refine xmv ?_
 refine EOps_split 22 (b:=_) rfl (fun hg22=>?_) (fun hg22=>?_)
 ·simp [hc] at hg22
 refine xmv ?_
 refine p_ rfl (L_bin rfl rfl rfl rfl) ?_
 refine p_ rfl (L_pick rfl rfl) ?_
 refine EOps_nil ?_
 refine G_cond rfl (fun hc25=>?_) (fun hc25=>?_)
 ·first|(simp at hc25;done)|(simp at hc25;omega)
 refine G_skip ?_
 refine G_seq ?_
 refine G_region' (L:=[0,1,2,3,4,5,6]) rfl ?_
 refine p_ rfl (l_field rfl fo_49_0) ?_
 refine l_ rfl (L_load rfl (xb0 ty_22)) ?_
 refine xmv ?_
 refine p_ rfl (L_index rfl rfl (xii sl_22 ty_3)) ?_
 refine l_ rfl (L_load rfl (xb0 ty_3)) ?_
 refine xas ?_
 refine xas ?_
 refine EOps_nil ?_
 refine G_seq ?_
 refine G_seq ?_
 refine G_region' (L:=[0,1,2,3]) rfl ?_
 refine p_ rfl (l_field rfl fo_49_2) ?_
 refine l_ rfl (L_load rfl (xb0 ty_47)) ?_
 refine p_ rfl (l_len rfl sl_47) ?_
 refine xmv ?_
 refine EOps_nil ?_
 refine G_block ?_
 refine g_forD_A37_1 (α:=Nat × List (Int × Int) × List (Int × Int) × Nat × Int) [0,1,2,4,5,6,7,9,25,33,34] (fun (k,Z,P,h,mv)=>[(35,.c (.sc (.int .i64 ((k:Int))))),(8,.c (.sc (.int .i64 ((h:Int))))),(10,.c (.sc (.int .i64 (mv)))),(11,.any),(12,.any)]) (fun (k,Z,P,h,mv)=>[.box (crkC c),.box [.sc (.slice none 0 0),.sc (.slice none 0 0),.sc (.slice none 0 0)],.row 3 1 (ints (Z.map (·.1))),.row 3 1 (ints (Z.map (·.2))),.row 151 2 (pairs P),.box [.sl 2 0 c.vals.length c.vals.length,.sl 3 0 c.vals.length c.vals.length,.sl 4 0 c.piv.length c.piv.length]]) (fun (k,Z,P,h,mv)=>delZ (valAt c w) (c.piv.length - k) k Z P h mv=delRz c h0∧DelI c.piv P (zpC c) (valAt c w) h0 k Z h∧0≤mv∧mv≤k∧k≤c.piv.length) (fun (k,Z,P,h,mv)=>c.piv.length - k) ((0,zpC c,c.piv,h0,0)) ?_ (by dsimp only;rw [zpC_1 hok.rl,zpC_2 hok.rl,← hok.rl];rfl) ⟨.inr rfl,.inr rfl,.inr rfl,.inl rfl,.inl rfl,trivial⟩ ?_
 ·exact⟨hRz.symm,I0,by first|omega|(dsimp only;omega),by first|omega|(dsimp only;omega),Nat.zero_le _⟩
 rintro⟨k,Z,P,h,mv⟩ ⟨hgo,I,hmv0,hmv1,hkm⟩
 dsimp only at *
 have hZ:Z.length=c.vals.length:=by rw [I.zl,hz]
 have hP:P.length=c.piv.length:=I.pl
 have hPl:(pairs P).length=c.piv.length:=by rw [pairs_len];exact hP
 have hhn:=I.hn
 refine G_seq ?_
 refine G_region' (L:=[0]) rfl ?_
 refine p_ rfl (L_bin rfl rfl rfl rfl) ?_
 refine EOps_nil ?_
 refine G_seq ?_
 refine G_cond rfl (fun hc36=>?_) (fun hc36=>?_)
 ·have hk1 : k < c.piv.length := by simp at hc36; omega
  obtain⟨⟨p1,p2⟩,hp⟩:=at_lt (l:=c.piv) (k:=k) hk1
  have hpP:P[k]? = some (p1,p2):=by rw [I.lo k (Nat.le_refl _)];exact hp
  obtain⟨f,hf⟩:∃ f,c.piv.length - k=f+1:=⟨c.piv.length - k - 1,by omega⟩
  have hf':c.piv.length - (k+1)=f:=by omega
  rw [hf] at hgo
  refine G_skip ?_
  refine G_seq ?_
  refine G_block ?_
  refine G_seq ?_
  refine G_region' (L:=[0,1,2,3,4,5]) rfl ?_
  refine xmv ?_
  refine p_ rfl (L_index rfl rfl (xii sl_47 ty_151)) ?_
  refine l_ rfl (L_load rfl (xb0 ty_151)) ?_
  refine x_alloc rfl rfl rfl rfl za_151 ?_
  refine xas ?_
  refine EOps_go rfl rfl (EOp_store rfl rfl rfl (xb1 ty_151) ?_)
  refine EOps_nil ?_
  refine G_seq ?_
  refine G_seq ?_
  refine G_region' (L:=[0,1,2,3]) rfl ?_
  refine p_ rfl (l_field rfl fo_151_0) ?_
  refine l_ rfl (L_load rfl (xb0 ty_3)) ?_
  refine xmv ?_
  refine p_ rfl (L_bin rfl rfl rfl rfl) ?_
  refine EOps_nil ?_
  refine G_cond rfl (fun hc43=>?_) (fun hc43=>?_)
  ·have hle : p1 ≤ valAt c w := by simpa using hc43
   rw [delZ_skip hpP hle] at hgo
   have hst:=delI_skip I hp hle
   refine G_exit ?_
   refine G_region' (L:=[0,1]) rfl ?_
   refine p_ rfl xb2 ?_
   refine xmv ?_
   refine EOps_nil ?_
   refine⟨[0,1,2,3,4,5],rfl,(k+1,Z,P,h,mv),?_,?_,(by first|rfl|(rw [← pairs_set,Int.toNat_natCast,Nat.zero_add k];rfl)|(rw [← pairs_set];simp only [Int.toNat_natCast,Nat.zero_add];rfl)),⟨.inr rfl,.inr (int_eq (by first|rfl|omega|(dsimp only;omega))),.inr rfl,.inl rfl,.inl rfl,trivial⟩,⟨.inr rfl,.inr rfl,.inr rfl,.inr rfl,.inr rfl,.inr rfl,.inr rfl,.inr rfl,.inr rfl,.inr rfl,.inr rfl,trivial⟩⟩
   ·dsimp only;omega
   first|exact⟨by dsimp only;rw [hf'];exact hgo,hst,by dsimp only;omega,by dsimp only;omega,by dsimp only;omega⟩
  have hle : ¬ p1 ≤ valAt c w := by simpa using hc43
  obtain⟨a,rfl⟩:∃ a:Nat,p2=(a:Int)+1:=⟨(p2 - 1).toNat,by have h1:=(hb _ (List.mem_of_getElem? hp)).2.2.1 (by dsimp only;omega);dsimp only at h1;omega⟩
  have hpb:=hb _ (List.mem_of_getElem? hp)
  have hst:=delI_step hok.so hb I hp (by dsimp only;omega)
  have e1:(((a:Int)+1 - 1).toNat)=a:=by omega
  dsimp only at hst hpb
  rw [e1] at hst
  rw [delZ_go hpP hle] at hgo
  have hmb:=mvN_bd h a
  refine G_skip ?_
  refine G_seq ?_
  refine g_tidy_A37_0 [0,1,2,4,5,6,7,8,9,10,11,12,25,33,34,35,36,43] ?_
  refine G_region' (L:=[0,1,2,3,4,5,6,7]) rfl ?_
  refine xmv ?_
  refine xmv ?_
  refine p_ rfl (l_field rfl fo_151_1) ?_
  refine l_ rfl (L_load rfl (xb0 ty_3)) ?_
  refine p_ rfl xb5 ?_
  rw [show (a:Int)+1 - 1=(a:Int) from by omega]
  refine x_frame [5,2,3,4] rfl rfl rfl rfl rfl ca_203 rfl (c___impl_Cracker__put Z P h a c.vals.length c.piv.length hZ hP (by omega) (by omega)) ?_
  rintro r S ⟨r0,S0,⟨rfl,rfl⟩,rfl,rfl⟩
  refine p_ rfl xb2 ?_
  refine xas ?_
  refine EOps_nil ?_
  refine G_seq ?_
  refine G_region' (L:=[0,1,2,3]) rfl ?_
  refine p_ rfl (l_field rfl fo_151_1) ?_
  refine l_ rfl (L_load rfl (xb0 ty_3)) ?_
  refine p_ rfl xb5 ?_
  refine xas ?_
  refine EOps_nil ?_
  refine G_region' (L:=[0,1,2,3,4,5,6,7,8,9]) rfl ?_
  refine p_ rfl (l_field rfl fo_49_2) ?_
  refine l_ rfl (L_load rfl (xb0 ty_47)) ?_
  refine xmv ?_
  refine p_ rfl (L_index rfl rfl (xii sl_47 ty_151)) ?_
  refine p_ rfl (l_field rfl fo_151_1) ?_
  refine l_ rfl (L_load rfl (xb0 ty_3)) ?_
  refine p_ rfl xb5 ?_
  refine p_ rfl (L_index rfl rfl (xii sl_47 ty_151)) ?_
  refine p_ rfl (l_field rfl fo_151_1) ?_
  refine EOps_go rfl rfl (EOp_store rfl rfl rfl (xb1 ty_3) ?_)
  refine EOps_nil ?_
  refine G_region' (L:=[0,1]) rfl ?_
  refine p_ rfl xb2 ?_
  refine xmv ?_
  refine EOps_nil ?_
  refine⟨[0,1,2,3,4,5],rfl,(k+1,mvZ Z h a,P.set k (p1,(a:Int)+1 - 1),a,mv+mvN h a),?_,?_,(by first|rfl|(rw [← pairs_set,Int.toNat_natCast,Nat.zero_add k];rfl)|(rw [← pairs_set];simp only [Int.toNat_natCast,Nat.zero_add];rfl)),⟨.inr rfl,.inr (int_eq (by first|rfl|omega|(dsimp only;omega))),.inr rfl,.inl rfl,.inl rfl,trivial⟩,⟨.inr rfl,.inr rfl,.inr rfl,.inr rfl,.inr rfl,.inr rfl,.inr rfl,.inr rfl,.inr rfl,.inr rfl,.inr rfl,trivial⟩⟩
  ·dsimp only;omega
  first|exact⟨by dsimp only;rw [hf'];exact hgo,hst,by dsimp only;omega,by dsimp only;omega,by dsimp only;omega⟩
 have hk0 : k = c.piv.length := by simp at hc36; omega
 subst hk0
 have hend:delRz c h0=(Z,P,h,mv):=by rw [← hgo,Nat.sub_self];rfl
 refine G_exit ?_
 refine G_seq ?_
 refine G_region' (L:=[0,1,2,3,4]) rfl ?_
 refine p_ rfl (l_field rfl fo_49_0) ?_
 refine l_ rfl (L_load rfl (xb0 ty_22)) ?_
 refine p_ rfl (l_len rfl sl_22) ?_
 refine p_ rfl xb5 ?_
 refine xas ?_
 refine EOps_nil ?_
 refine G_seq ?_
 refine g_tidy_A37_0 [0,1,2,4,5,6,7,8,9,10,11,12,13,25,33,34,35,36,43] ?_
 refine G_region' (L:=[0,1,2,3,4,5]) rfl ?_
 refine xmv ?_
 refine xmv ?_
 refine xmv ?_
 rw [hln1]
 refine x_frame [5,2,3,4] rfl rfl rfl rfl rfl ca_203 rfl (c___impl_Cracker__put Z P h (c.vals.length - 1) c.vals.length c.piv.length hZ hP (by omega) (by omega)) ?_
 rintro r S ⟨r0,S0,⟨rfl,rfl⟩,rfl,rfl⟩
 have hmb:=mvN_bd h (c.vals.length - 1)
 refine p_ rfl xb2 ?_
 refine xas ?_
 refine EOps_nil ?_
 refine G_seq ?_
 have hZl:(mvZ Z h (c.vals.length - 1)).length=c.vals.length:=by rw [mvZ_len];exact hZ
 have hZv:(ints ((mvZ Z h (c.vals.length - 1)).map (·.1))).length=c.vals.length:=by rw [ints_len,List.length_map];exact hZl
 have hZw:(ints ((mvZ Z h (c.vals.length - 1)).map (·.2))).length=c.vals.length:=by rw [ints_len,List.length_map];exact hZl
 refine G_drawU mixed ?_
 refine up_ 0 rfl (l_field rfl fo_49_0) ?_
 refine up_ 2 rfl (L_move rfl) ?_
 refine up_ 4 rfl (l_field rfl fo_49_1) ?_
 refine up_ 6 rfl (L_move rfl) ?_
 refine u_any 1 [5] ⟨?_,?_,trivial⟩
 ·refine u_op 1 rfl rfl (EOp_light rfl (by decide) (L_load rfl (xb3 ty_22)) ?_)
  refine up_ 3 rfl (by first|exact L_slice_ro (l:=0) (h:=(c.vals.length - 1)) rfl sl_22 ty_3 rfl rfl rfl (by first|omega|(simp [ints_len,pairs_len,quads_len,quints_len,bools_len];omega)|(simp [ints_len,pairs_len,quads_len,quints_len,bools_len] at *;omega)) (by first|omega|(simp [ints_len,pairs_len,quads_len,quints_len,bools_len];omega)|(simp [ints_len,pairs_len,quads_len,quints_len,bools_len] at *;omega)) (by first|exact fun r hr=>(ints_row _ r hr).1|exact fun r hr=>(pairs_row _ r hr).1|exact fun r hr=>(quads_row _ r hr).1|exact fun r hr=>(quints_row _ r hr).1|exact fun r hr=>(bools_row _ r hr).1)|exact L_slice_sl (l:=0) (h:=(c.vals.length - 1)) rfl sl_22 ty_3 rfl (by first|rfl|assumption) (by first|assumption|exact ints_len _|exact pairs_len _|exact quads_len _|exact quints_len _|exact bools_len _|(simp [ints_len,bools_len,pairs_len,quads_len,quints_len,part_len, *];done)|(simp [ints_len,bools_len,pairs_len,quads_len,quints_len];omega)|rfl) rfl rfl (by first|omega|(simp [ints_len,pairs_len,quads_len,quints_len,bools_len];omega)|(simp [ints_len,pairs_len,quads_len,quints_len,bools_len] at *;omega)) (by first|omega|(simp [ints_len,pairs_len,quads_len,quints_len,bools_len];omega)|(simp [ints_len,pairs_len,quads_len,quints_len,bools_len] at *;omega))) ?_
  refine u_any 5 [] ⟨?_,trivial⟩
  refine u_op 5 rfl rfl (EOp_light rfl (by decide) (L_load rfl (xb0 ty_22)) ?_)
  refine up_ 7 rfl (by first|exact L_slice_ro (l:=0) (h:=(c.vals.length - 1)) rfl sl_22 ty_3 rfl rfl rfl (by first|omega|(simp [ints_len,pairs_len,quads_len,quints_len,bools_len];omega)|(simp [ints_len,pairs_len,quads_len,quints_len,bools_len] at *;omega)) (by first|omega|(simp [ints_len,pairs_len,quads_len,quints_len,bools_len];omega)|(simp [ints_len,pairs_len,quads_len,quints_len,bools_len] at *;omega)) (by first|exact fun r hr=>(ints_row _ r hr).1|exact fun r hr=>(pairs_row _ r hr).1|exact fun r hr=>(quads_row _ r hr).1|exact fun r hr=>(quints_row _ r hr).1|exact fun r hr=>(bools_row _ r hr).1)|exact L_slice_sl (l:=0) (h:=(c.vals.length - 1)) rfl sl_22 ty_3 rfl (by first|rfl|assumption) (by first|assumption|exact ints_len _|exact pairs_len _|exact quads_len _|exact quints_len _|exact bools_len _|(simp [ints_len,bools_len,pairs_len,quads_len,quints_len,part_len, *];done)|(simp [ints_len,bools_len,pairs_len,quads_len,quints_len];omega)|rfl) rfl rfl (by first|omega|(simp [ints_len,pairs_len,quads_len,quints_len,bools_len];omega)|(simp [ints_len,pairs_len,quads_len,quints_len,bools_len] at *;omega)) (by first|omega|(simp [ints_len,pairs_len,quads_len,quints_len,bools_len];omega)|(simp [ints_len,pairs_len,quads_len,quints_len,bools_len] at *;omega))) ?_
  refine up_ 8 rfl (l_field rfl fo_49_0) ?_
  refine u_any 9 [] ⟨?_,trivial⟩
  refine u_op 9 rfl rfl (EOp_store rfl rfl rfl (xb1 ty_22) ?_)
  refine up_ 10 rfl (l_field rfl fo_49_1) ?_
  refine u_any 11 [] ⟨?_,trivial⟩
  refine u_op 11 rfl rfl (EOp_store rfl rfl rfl (xb1 ty_22) ?_)
  refine u_done ?_
  refine G_seq ?_
  refine G_region' (L:=[0,1,2,3,4]) rfl ?_
  refine l_ rfl (L_load rfl (xb0 ty_49)) ?_
  refine xmv ?_
  refine EOps_go rfl rfl (EOp_store rfl rfl rfl (xb1 ty_49) ?_)
  refine xas ?_
  refine xas ?_
  refine EOps_nil ?_
  refine G_moveN' 6 1 0 rfl rfl rfl rfl (by rw [ints_len,List.length_map];exact hZl) (by omega) rfl (ints_allSc _) ?_
  refine G_moveN' 7 1 1 rfl rfl rfl rfl (by rw [ints_len,List.length_map];exact hZl) (by omega) rfl (ints_allSc _) ?_
  refine G_ret ?_
  obtain⟨e1,e2⟩:=ripD_eq hend
  rw [hd1,hd2,e1,e2]
  have e3:=ints_takeM (mvZ Z h (c.vals.length - 1)) (c.vals.length - 1)
  refine⟨_,[6,7,4],rfl,rfl,?_,?_⟩
  ·simp only [crkO,crkZ,List.length_map,List.length_take,hZl,hP,Nat.sub_zero,Nat.min_eq_left (Nat.sub_le _ 1)];rfl
  simp only [crkR, crkZ]
  rw [← e3.1,← e3.2];rfl
 refine u_op 5 rfl rfl (EOp_light rfl (by decide) (L_load rfl (xb3 ty_22)) ?_)
 refine up_ 7 rfl (by first|exact L_slice_ro (l:=0) (h:=(c.vals.length - 1)) rfl sl_22 ty_3 rfl rfl rfl (by first|omega|(simp [ints_len,pairs_len,quads_len,quints_len,bools_len];omega)|(simp [ints_len,pairs_len,quads_len,quints_len,bools_len] at *;omega)) (by first|omega|(simp [ints_len,pairs_len,quads_len,quints_len,bools_len];omega)|(simp [ints_len,pairs_len,quads_len,quints_len,bools_len] at *;omega)) (by first|exact fun r hr=>(ints_row _ r hr).1|exact fun r hr=>(pairs_row _ r hr).1|exact fun r hr=>(quads_row _ r hr).1|exact fun r hr=>(quints_row _ r hr).1|exact fun r hr=>(bools_row _ r hr).1)|exact L_slice_sl (l:=0) (h:=(c.vals.length - 1)) rfl sl_22 ty_3 rfl (by first|rfl|assumption) (by first|assumption|exact ints_len _|exact pairs_len _|exact quads_len _|exact quints_len _|exact bools_len _|(simp [ints_len,bools_len,pairs_len,quads_len,quints_len,part_len, *];done)|(simp [ints_len,bools_len,pairs_len,quads_len,quints_len];omega)|rfl) rfl rfl (by first|omega|(simp [ints_len,pairs_len,quads_len,quints_len,bools_len];omega)|(simp [ints_len,pairs_len,quads_len,quints_len,bools_len] at *;omega)) (by first|omega|(simp [ints_len,pairs_len,quads_len,quints_len,bools_len];omega)|(simp [ints_len,pairs_len,quads_len,quints_len,bools_len] at *;omega))) ?_
 refine u_any 1 [] ⟨?_,trivial⟩
 refine u_op 1 rfl rfl (EOp_light rfl (by decide) (L_load rfl (xb0 ty_22)) ?_)
 refine up_ 3 rfl (by first|exact L_slice_ro (l:=0) (h:=(c.vals.length - 1)) rfl sl_22 ty_3 rfl rfl rfl (by first|omega|(simp [ints_len,pairs_len,quads_len,quints_len,bools_len];omega)|(simp [ints_len,pairs_len,quads_len,quints_len,bools_len] at *;omega)) (by first|omega|(simp [ints_len,pairs_len,quads_len,quints_len,bools_len];omega)|(simp [ints_len,pairs_len,quads_len,quints_len,bools_len] at *;omega)) (by first|exact fun r hr=>(ints_row _ r hr).1|exact fun r hr=>(pairs_row _ r hr).1|exact fun r hr=>(quads_row _ r hr).1|exact fun r hr=>(quints_row _ r hr).1|exact fun r hr=>(bools_row _ r hr).1)|exact L_slice_sl (l:=0) (h:=(c.vals.length - 1)) rfl sl_22 ty_3 rfl (by first|rfl|assumption) (by first|assumption|exact ints_len _|exact pairs_len _|exact quads_len _|exact quints_len _|exact bools_len _|(simp [ints_len,bools_len,pairs_len,quads_len,quints_len,part_len, *];done)|(simp [ints_len,bools_len,pairs_len,quads_len,quints_len];omega)|rfl) rfl rfl (by first|omega|(simp [ints_len,pairs_len,quads_len,quints_len,bools_len];omega)|(simp [ints_len,pairs_len,quads_len,quints_len,bools_len] at *;omega)) (by first|omega|(simp [ints_len,pairs_len,quads_len,quints_len,bools_len];omega)|(simp [ints_len,pairs_len,quads_len,quints_len,bools_len] at *;omega))) ?_
 refine up_ 8 rfl (l_field rfl fo_49_0) ?_
 refine u_any 9 [] ⟨?_,trivial⟩
 refine u_op 9 rfl rfl (EOp_store rfl rfl rfl (xb1 ty_22) ?_)
 refine up_ 10 rfl (l_field rfl fo_49_1) ?_
 refine u_any 11 [] ⟨?_,trivial⟩
 refine u_op 11 rfl rfl (EOp_store rfl rfl rfl (xb1 ty_22) ?_)
 refine u_done ?_
 refine G_seq ?_
 refine G_region' (L:=[0,1,2,3,4]) rfl ?_
 refine l_ rfl (L_load rfl (xb0 ty_49)) ?_
 refine xmv ?_
 refine EOps_go rfl rfl (EOp_store rfl rfl rfl (xb1 ty_49) ?_)
 refine xas ?_
 refine xas ?_
 refine EOps_nil ?_
 refine G_moveN' 6 1 0 rfl rfl rfl rfl (by rw [ints_len,List.length_map];exact hZl) (by omega) rfl (ints_allSc _) ?_
 refine G_moveN' 7 1 1 rfl rfl rfl rfl (by rw [ints_len,List.length_map];exact hZl) (by omega) rfl (ints_allSc _) ?_
 refine G_ret ?_
 obtain⟨e1,e2⟩:=ripD_eq hend
 rw [hd1,hd2,e1,e2]
 have e3:=ints_takeM (mvZ Z h (c.vals.length - 1)) (c.vals.length - 1)
 refine⟨_,[6,7,4],rfl,rfl,?_,?_⟩
 ·simp only [crkO,crkZ,List.length_map,List.length_take,hZl,hP,Nat.sub_zero,Nat.min_eq_left (Nat.sub_le _ 1)];rfl
 simp only [crkR, crkZ]
 rw [← e3.1,← e3.2];rfl

set_option maxRecDepth 20000 in
set_option maxHeartbeats 8000000 in
theorem c_spec_RippleDelete (c : Crk) (w : Int) (hc : isCrk c = true) (hw : w ∈ c.rows) : EFn Tryz.prog 151 [.agg (crkC c), .c (.sc (.int .i64 w))] [] (fun r S => r = .tup [(true, crkO 0 (dRow c w)), (false, [.sc (.int .i64 (dRowN c w))]), (false, [.sc (.bool true)])] ∧ S = crkR 3 151 (dRow c w)) := by
 refine E_fn Tryz.func151 rfl (Nat.le_of_ble_eq_true rfl) ?_
 have hln:=crk_lens hc
 have hok:=(crk_iff c).1 hc
 have hz:(zpC c).length=c.vals.length:=by simp [zpC,hok.rl]
 obtain⟨h0,hi0,hlt0,hr0,hv0,_⟩:=row_place hok.rl hw
 have hva:c.vals.getD h0 0=valAt c w:=getD_of hv0
 obtain⟨I0,hb⟩:=delI0 hok hlt0
 have hd1:dRow c w=ripD c h0:=by rw [dRow,hi0,Int.toNat_natCast]
 have hd2:dRowN c w=ripDn c h0:=by rw [dRowN,hi0,Int.toNat_natCast]
 have hRz:delRz c h0=delZ (valAt c w) c.piv.length 0 (zpC c) c.piv h0 0:=by rw [delRz,hva]
 rw [hva] at I0 hb
 have hln1:((c.vals.length:Nat):Int) - 1=((c.vals.length - 1:Nat):Int):=by omega
 refine E_seq ?_
 refine E_region' (L:=[0,1,2,3]) rfl ?_
 refine x_box rfl rfl rfl rfl rfl ?_
 refine x_alloc rfl rfl rfl rfl za_49 ?_
 refine xas ?_
 refine xas ?_
 refine EOps_nil ?_
 refine E_seq ?_
 refine e_tidy_A37_2 [0,1,2,4,5,6] ?_
 refine E_region' (L:=[0,1,2,3]) rfl ?_
 refine l_ rfl (L_load rfl (xb0 ty_49)) ?_
 refine xmv ?_
 refine x_call rfl rfl rfl rfl rfl ca_150 (c_spec_FindRow c w (by omega)) ?_
 rintro r S ⟨rfl,rfl⟩
 rw [hi0]
 refine xas ?_
 refine EOps_nil ?_
 refine E_seq ?_
 refine E_seq ?_
 refine e_tidy_A37_2 [0,1,2,4,5,6,7] ?_
 refine E_region' (L:=[0,1,2,3,4,5,6]) rfl ?_
 refine l_ rfl (L_load rfl (xb0 ty_49)) ?_
 refine x_call rfl rfl rfl rfl rfl ca_39 (c_spec_IsCracker c) ?_
 rintro r S ⟨rfl,rfl⟩
 refine p_ rfl (L_not rfl rfl) ?_
 refine xmv ?_
 refine EOps_split 19 (b:=_) rfl (fun hg19=>?_) (fun hg19=>?_)
 ·simp [hc] at hg19
 refine xmv ?_
 refine p_ rfl (L_bin rfl rfl rfl rfl) ?_
 refine p_ rfl (L_pick rfl rfl) ?_
 refine EOps_nil ?_
 refine E_cond rfl (fun hc22=>?_) (fun hc22=>?_)
 ·first|(simp at hc22;done)|(simp at hc22;omega)
 refine E_skip ?_
 refine E_seq ?_
 refine e_tidy_A37_2 [0,1,2,4,5,6,7,22] ?_
 refine E_region' (L:=[0,1,2,3]) rfl ?_
 refine l_ rfl (L_load rfl (xb0 ty_49)) ?_
 refine x_call rfl rfl rfl rfl rfl ca_99 (c_spec_l4Copy c (by omega)) ?_
 rintro r S ⟨rfl,rfl⟩
 refine x_alloc rfl rfl rfl rfl za_49 ?_
 refine EOps_go rfl rfl (EOp_store rfl rfl rfl (xb1 ty_49) ?_)
 refine EOps_nil ?_
 refine E_seq ?_
 refine E_region' (L:=[0,1,2,3,4,5]) rfl ?_
 refine p_ rfl (l_field rfl fo_49_0) ?_
 refine l_ rfl (L_load rfl (xb0 ty_22)) ?_
 refine xmv ?_
 refine p_ rfl (L_index rfl rfl (xii sl_22 ty_3)) ?_
 refine l_ rfl (L_load rfl (xb0 ty_3)) ?_
 refine xas ?_
 refine EOps_nil ?_
 refine E_seq ?_
 refine E_region' (L:=[0]) rfl ?_
 refine xas ?_
 refine EOps_nil ?_
 refine E_seq ?_
 refine E_seq ?_
 refine E_region' (L:=[0]) rfl ?_
 refine xas ?_
 refine EOps_nil ?_
 refine E_block ?_
 refine e_for_A37_3 (α:=Nat × List (Int × Int) × List (Int × Int) × Nat × Int) [0,1,2,4,5,6,8,9,22] (fun (k,Z,P,h,mv)=>[(11,.c (.sc (.int .i64 ((k:Int))))),(7,.c (.sc (.int .i64 ((h:Int))))),(10,.c (.sc (.int .i64 (mv)))),(12,.any)]) (fun (k,Z,P,h,mv)=>[.box (crkC c),.box [.sc (.slice none 0 0),.sc (.slice none 0 0),.sc (.slice none 0 0)],.row 3 1 (ints (Z.map (·.1))),.row 3 1 (ints (Z.map (·.2))),.row 151 2 (pairs P),.box [.sl 2 0 c.vals.length c.vals.length,.sl 3 0 c.vals.length c.vals.length,.sl 4 0 c.piv.length c.piv.length]]) (fun (k,Z,P,h,mv)=>delZ (valAt c w) (c.piv.length - k) k Z P h mv=delRz c h0∧DelI c.piv P (zpC c) (valAt c w) h0 k Z h∧0≤mv∧mv≤k∧k≤c.piv.length) (fun (k,Z,P,h,mv)=>c.piv.length - k) ((0,zpC c,c.piv,h0,0)) ?_ (by dsimp only;rw [zpC_1 hok.rl,zpC_2 hok.rl];simp only [crkO,crkR,hok.rl];rfl) ⟨.inr rfl,.inr rfl,.inr rfl,.inl rfl,trivial⟩ ?_
 ·exact⟨hRz.symm,I0,by first|omega|(dsimp only;omega),by first|omega|(dsimp only;omega),Nat.zero_le _⟩
 rintro⟨k,Z,P,h,mv⟩ ⟨hgo,I,hmv0,hmv1,hkm⟩
 dsimp only at *
 have hZ:Z.length=c.vals.length:=by rw [I.zl,hz]
 have hP:P.length=c.piv.length:=I.pl
 have hPl:(pairs P).length=c.piv.length:=by rw [pairs_len];exact hP
 have hhn:=I.hn
 refine E_seq ?_
 refine E_seq ?_
 refine E_region' (L:=[0,1,2,3,4]) rfl ?_
 refine xmv ?_
 refine p_ rfl (l_field rfl fo_49_2) ?_
 refine l_ rfl (L_load rfl (xb0 ty_47)) ?_
 refine p_ rfl (l_len rfl sl_47) ?_
 refine p_ rfl (L_bin rfl rfl rfl rfl) ?_
 refine EOps_nil ?_
 refine E_cond rfl (fun hc36=>?_) (fun hc36=>?_)
 ·have hk1 : k < c.piv.length := by simp at hc36; omega
  obtain⟨⟨p1,p2⟩,hp⟩:=at_lt (l:=c.piv) (k:=k) hk1
  have hpP:P[k]? = some (p1,p2):=by rw [I.lo k (Nat.le_refl _)];exact hp
  obtain⟨f,hf⟩:∃ f,c.piv.length - k=f+1:=⟨c.piv.length - k - 1,by omega⟩
  have hf':c.piv.length - (k+1)=f:=by omega
  rw [hf] at hgo
  refine E_skip ?_
  refine E_seq ?_
  refine E_block ?_
  refine E_seq ?_
  refine E_seq ?_
  refine E_region' (L:=[0,1,2,3,4,5,6,7]) rfl ?_
  refine p_ rfl (l_field rfl fo_49_2) ?_
  refine l_ rfl (L_load rfl (xb0 ty_47)) ?_
  refine xmv ?_
  refine p_ rfl (L_index rfl rfl (xii sl_47 ty_151)) ?_
  refine p_ rfl (l_field rfl fo_151_0) ?_
  refine l_ rfl (L_load rfl (xb0 ty_3)) ?_
  refine xmv ?_
  refine p_ rfl (L_bin rfl rfl rfl rfl) ?_
  refine EOps_nil ?_
  refine E_cond rfl (fun hc46=>?_) (fun hc46=>?_)
  ·have hle : p1 ≤ valAt c w := by simpa using hc46
   rw [delZ_skip hpP hle] at hgo
   have hst:=delI_skip I hp hle
   refine E_exit ?_
   refine E_region' (L:=[0,1,2]) rfl ?_
   refine xmv ?_
   refine p_ rfl xb2 ?_
   refine xas ?_
   refine EOps_nil ?_
   refine⟨(k+1,Z,P,h,mv),?_,?_,(by first|rfl|(rw [← pairs_set,Int.toNat_natCast,Nat.zero_add k];rfl)|(rw [← pairs_set];simp only [Int.toNat_natCast,Nat.zero_add];rfl)),⟨.inr rfl,.inr (int_eq (by first|rfl|omega|(dsimp only;omega))),.inr rfl,.inl rfl,trivial⟩,⟨.inr rfl,.inr rfl,.inr rfl,.inr rfl,.inr rfl,.inr rfl,.inr rfl,.inr rfl,.inr rfl,trivial⟩⟩
   ·dsimp only;omega
   first|exact⟨by dsimp only;rw [hf'];exact hgo,hst,by dsimp only;omega,by dsimp only;omega,by dsimp only;omega⟩
  have hle : ¬ p1 ≤ valAt c w := by simpa using hc46
  obtain⟨a,rfl⟩:∃ a:Nat,p2=(a:Int)+1:=⟨(p2 - 1).toNat,by have h1:=(hb _ (List.mem_of_getElem? hp)).2.2.1 (by dsimp only;omega);dsimp only at h1;omega⟩
  have hpb:=hb _ (List.mem_of_getElem? hp)
  have hst:=delI_step hok.so hb I hp (by dsimp only;omega)
  have e1:(((a:Int)+1 - 1).toNat)=a:=by omega
  dsimp only at hst hpb
  rw [e1] at hst
  rw [delZ_go hpP hle] at hgo
  have hmb:=mvN_bd h a
  rw [show (a:Int)+1 - 1=(a:Int) from by omega] at hst hgo
  refine E_skip ?_
  refine E_seq ?_
  refine E_region' (L:=[0,1,2,3,4,5,6,7]) rfl ?_
  refine p_ rfl (l_field rfl fo_49_2) ?_
  refine l_ rfl (L_load rfl (xb0 ty_47)) ?_
  refine xmv ?_
  refine p_ rfl (L_index rfl rfl (xii sl_47 ty_151)) ?_
  refine p_ rfl (l_field rfl fo_151_1) ?_
  refine l_ rfl (L_load rfl (xb0 ty_3)) ?_
  refine p_ rfl xb5 ?_
  refine xas ?_
  refine EOps_nil ?_
  refine E_seq ?_
  refine e_tidy_A37_2 [0,1,2,4,5,6,7,8,9,10,11,12,22,36,46] ?_
  refine E_region' (L:=[0,1,2,3,4,5]) rfl ?_
  refine xmv ?_
  refine xmv ?_
  refine xmv ?_
  rw [show (a:Int)+1 - 1=(a:Int) from by omega]
  refine x_frame [5,2,3,4] rfl rfl rfl rfl rfl ca_204 rfl (c_spec_l10Move Z P h a c.vals.length c.piv.length hZ hP (by omega) (by omega)) ?_
  rintro r S ⟨r0,S0,⟨rfl,rfl⟩,rfl,rfl⟩
  refine p_ rfl xb2 ?_
  refine xas ?_
  refine EOps_nil ?_
  refine E_seq ?_
  refine E_region' (L:=[0,1]) rfl ?_
  refine xmv ?_
  refine xas ?_
  refine EOps_nil ?_
  refine E_region' (L:=[0,1,2,3,4,5,6]) rfl ?_
  refine p_ rfl (l_field rfl fo_49_2) ?_
  refine l_ rfl (L_load rfl (xb0 ty_47)) ?_
  refine xmv ?_
  refine xmv ?_
  refine p_ rfl (L_index rfl rfl (xii sl_47 ty_151)) ?_
  refine p_ rfl (l_field rfl fo_151_1) ?_
  refine EOps_go rfl rfl (EOp_store rfl rfl rfl (xb1 ty_3) ?_)
  refine EOps_nil ?_
  refine E_region' (L:=[0,1,2]) rfl ?_
  refine xmv ?_
  refine p_ rfl xb2 ?_
  refine xas ?_
  refine EOps_nil ?_
  refine⟨(k+1,mvZ Z h a,P.set k (p1,(a:Int)),a,mv+mvN h a),?_,?_,(by first|rfl|(rw [← pairs_set,Int.toNat_natCast,Nat.zero_add k];rfl)|(rw [← pairs_set];simp only [Int.toNat_natCast,Nat.zero_add];rfl)),⟨.inr rfl,.inr (int_eq (by first|rfl|omega|(dsimp only;omega))),.inr rfl,.inl rfl,trivial⟩,⟨.inr rfl,.inr rfl,.inr rfl,.inr rfl,.inr rfl,.inr rfl,.inr rfl,.inr rfl,.inr rfl,trivial⟩⟩
  ·dsimp only;omega
  first|exact⟨by dsimp only;rw [hf'];exact hgo,hst,by dsimp only;omega,by dsimp only;omega,by dsimp only;omega⟩
 have hk0 : k = c.piv.length := by simp at hc36; omega
 subst hk0
 have hend:delRz c h0=(Z,P,h,mv):=by rw [← hgo,Nat.sub_self];rfl
 refine E_exit ?_
 refine E_seq ?_
 refine e_tidy_A37_2 [0,1,2,4,5,6,7,8,9,10,11,12,22,36,46] ?_
 refine E_region' (L:=[0,1,2,3,4,5,6,7,8]) rfl ?_
 refine xmv ?_
 refine p_ rfl (l_field rfl fo_49_0) ?_
 refine l_ rfl (L_load rfl (xb0 ty_22)) ?_
 refine p_ rfl (l_len rfl sl_22) ?_
 refine p_ rfl xb5 ?_
 rw [hln1]
 refine xmv ?_
 refine x_frame [5,2,3,4] rfl rfl rfl rfl rfl ca_204 rfl (c_spec_l10Move Z P h (c.vals.length - 1) c.vals.length c.piv.length hZ hP (by omega) (by omega)) ?_
 rintro r S ⟨r0,S0,⟨rfl,rfl⟩,rfl,rfl⟩
 have hmb:=mvN_bd h (c.vals.length - 1)
 refine p_ rfl xb2 ?_
 refine xas ?_
 refine EOps_nil ?_
 refine E_seq ?_
 have hZl:(mvZ Z h (c.vals.length - 1)).length=c.vals.length:=by rw [mvZ_len];exact hZ
 have hZv:(ints ((mvZ Z h (c.vals.length - 1)).map (·.1))).length=c.vals.length:=by rw [ints_len,List.length_map];exact hZl
 have hZw:(ints ((mvZ Z h (c.vals.length - 1)).map (·.2))).length=c.vals.length:=by rw [ints_len,List.length_map];exact hZl
 refine E_region' (L:=[0,1,2,3,4,5,6,7,8]) rfl ?_
 refine p_ rfl (l_field rfl fo_49_0) ?_
 refine l_ rfl (L_load rfl (xb0 ty_22)) ?_
 refine p_ rfl (l_field rfl fo_49_0) ?_
 refine l_ rfl (L_load rfl (xb0 ty_22)) ?_
 refine p_ rfl (l_len rfl sl_22) ?_
 refine p_ rfl xb5 ?_
 rw [hln1]
 refine p_ rfl (by first|exact L_slice_ro (l:=0) (h:=(c.vals.length - 1)) rfl sl_22 ty_3 rfl rfl rfl (by first|omega|(simp [ints_len,pairs_len,quads_len,quints_len,bools_len];omega)|(simp [ints_len,pairs_len,quads_len,quints_len,bools_len] at *;omega)) (by first|omega|(simp [ints_len,pairs_len,quads_len,quints_len,bools_len];omega)|(simp [ints_len,pairs_len,quads_len,quints_len,bools_len] at *;omega)) (by first|exact fun r hr=>(ints_row _ r hr).1|exact fun r hr=>(pairs_row _ r hr).1|exact fun r hr=>(quads_row _ r hr).1|exact fun r hr=>(quints_row _ r hr).1|exact fun r hr=>(bools_row _ r hr).1)|exact L_slice_sl (l:=0) (h:=(c.vals.length - 1)) rfl sl_22 ty_3 rfl (by first|rfl|assumption) (by first|assumption|exact ints_len _|exact pairs_len _|exact quads_len _|exact quints_len _|exact bools_len _|(simp [ints_len,bools_len,pairs_len,quads_len,quints_len,part_len, *];done)|(simp [ints_len,bools_len,pairs_len,quads_len,quints_len];omega)|rfl) rfl rfl (by first|omega|(simp [ints_len,pairs_len,quads_len,quints_len,bools_len];omega)|(simp [ints_len,pairs_len,quads_len,quints_len,bools_len] at *;omega)) (by first|omega|(simp [ints_len,pairs_len,quads_len,quints_len,bools_len];omega)|(simp [ints_len,pairs_len,quads_len,quints_len,bools_len] at *;omega))) ?_
 refine p_ rfl (l_field rfl fo_49_0) ?_
 refine EOps_go rfl rfl (EOp_store rfl rfl rfl (xb1 ty_22) ?_)
 refine EOps_nil ?_
 refine E_seq ?_
 refine E_region' (L:=[0,1,2,3,4,5,6,7,8]) rfl ?_
 refine p_ rfl (l_field rfl fo_49_1) ?_
 refine l_ rfl (L_load rfl (xb0 ty_22)) ?_
 refine p_ rfl (l_field rfl fo_49_1) ?_
 refine l_ rfl (L_load rfl (xb0 ty_22)) ?_
 refine p_ rfl (l_len rfl sl_22) ?_
 refine p_ rfl xb5 ?_
 rw [hln1]
 refine p_ rfl (by first|exact L_slice_ro (l:=0) (h:=(c.vals.length - 1)) rfl sl_22 ty_3 rfl rfl rfl (by first|omega|(simp [ints_len,pairs_len,quads_len,quints_len,bools_len];omega)|(simp [ints_len,pairs_len,quads_len,quints_len,bools_len] at *;omega)) (by first|omega|(simp [ints_len,pairs_len,quads_len,quints_len,bools_len];omega)|(simp [ints_len,pairs_len,quads_len,quints_len,bools_len] at *;omega)) (by first|exact fun r hr=>(ints_row _ r hr).1|exact fun r hr=>(pairs_row _ r hr).1|exact fun r hr=>(quads_row _ r hr).1|exact fun r hr=>(quints_row _ r hr).1|exact fun r hr=>(bools_row _ r hr).1)|exact L_slice_sl (l:=0) (h:=(c.vals.length - 1)) rfl sl_22 ty_3 rfl (by first|rfl|assumption) (by first|assumption|exact ints_len _|exact pairs_len _|exact quads_len _|exact quints_len _|exact bools_len _|(simp [ints_len,bools_len,pairs_len,quads_len,quints_len,part_len, *];done)|(simp [ints_len,bools_len,pairs_len,quads_len,quints_len];omega)|rfl) rfl rfl (by first|omega|(simp [ints_len,pairs_len,quads_len,quints_len,bools_len];omega)|(simp [ints_len,pairs_len,quads_len,quints_len,bools_len] at *;omega)) (by first|omega|(simp [ints_len,pairs_len,quads_len,quints_len,bools_len];omega)|(simp [ints_len,pairs_len,quads_len,quints_len,bools_len] at *;omega))) ?_
 refine p_ rfl (l_field rfl fo_49_1) ?_
 refine EOps_go rfl rfl (EOp_store rfl rfl rfl (xb1 ty_22) ?_)
 refine EOps_nil ?_
 refine E_seq ?_
 refine E_region' (L:=[0,1,2,3,4]) rfl ?_
 refine l_ rfl (L_load rfl (xb0 ty_49)) ?_
 refine xmv ?_
 refine EOps_go rfl rfl (EOp_store rfl rfl rfl (xb1 ty_49) ?_)
 refine xas ?_
 refine xas ?_
 refine EOps_nil ?_
 refine E_moveN' 6 1 0 rfl rfl rfl rfl (by rw [ints_len,List.length_map];exact hZl) (by omega) rfl (ints_allSc _) ?_
 refine E_moveN' 7 1 1 rfl rfl rfl rfl (by rw [ints_len,List.length_map];exact hZl) (by omega) rfl (ints_allSc _) ?_
 refine E_ret ?_
 obtain⟨e1,e2⟩:=ripD_eq hend
 rw [hd1,hd2,e1,e2]
 have e3:=ints_takeM (mvZ Z h (c.vals.length - 1)) (c.vals.length - 1)
 refine⟨_,[6,7,4],rfl,rfl,?_,?_⟩
 ·simp only [crkO,crkZ,List.length_map,List.length_take,hZl,hP,Nat.sub_zero,Nat.min_eq_left (Nat.sub_le _ 1)];rfl
 simp only [crkR, crkZ]
 rw [← e3.1,← e3.2];rfl

end Go.Proofs.YtlodlnbhjghjoaaGreat.E
