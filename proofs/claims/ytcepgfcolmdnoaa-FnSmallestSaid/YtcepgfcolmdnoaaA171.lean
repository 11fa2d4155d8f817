/- Walks through functions, by program out of the session's annotations. -/
import Derived.Test.YtcepgfcolmdnoaaA170
import Derived.Test.YtcepgfcolmdnoaaA168
namespace Go.Proofs.Ytcepgfcolmdnoaa.E
open Go Go.RowKit Go.Proofs
set_option linter.unusedVariables false
set_option linter.unusedSimpArgs false

theorem kv_crk {c : Crk} {k : Int} (hc : isCrk c = true) : isCrk (kvC c k) = true := by
 cases h:kvK c k
 ·rw [kvC,h];exact hc
 exact (kv_law h).1
theorem kvK_is {c : Crk} {k : Nat} (hc : isCrk c = true) : kvK c k = decide ((k : Int) < ((sortI c.vals).length : Int)) := by
 rw [sortI_len,kvK,hc]
 simp
theorem kv_at {c : Crk} {k : Nat} (hk : kvK c (k : Int) = true) : (sortI c.vals)[k]? = some ((sortI c.vals).getD k 0) := by
 have h:=(kvK_parts hk).2.2
 have hl:k<(sortI c.vals).length:=by rw [sortI_len];omega
 rw [List.getElem?_eq_getElem hl,getD_at hl]
theorem kv_lt {c : Crk} {k : Nat} (hk : kvK c (k : Int) = true) : k < (sortI c.vals).length := by
 have h:=(kvK_parts hk).2.2
 rw [sortI_len];omega
theorem kv_val {c:Crk} {k:Nat} (hk:kvK c (k:Int)=true):kvV c (k:Int)=(sortI c.vals).getD k 0:=(kv_law hk).2
theorem cutV_take (xs:List Int) (k:Nat):cutV xs ((0:Nat):Int) (k:Int)=xs.take k:=by simp [cutV]

set_option maxRecDepth 20000 in
set_option maxHeartbeats 16000000 in
theorem c_laws_FnSmallest (l : List Int) (hb0 : ∀ x ∈ l, 0 ≤ x ∧ x ≤ 255) : EFn Try.prog 7 [.c (.ro (bytes l))] [] (fun r S => r = .c (.sc (.bool true)) ∧ S = []) := by
 refine E_fn Try.func7 rfl (Nat.le_of_ble_eq_true rfl) ?_
 refine E_seq ?_
 refine E_region' (L:=[0]) rfl ?_
 refine xas ?_
 refine EOps_nil ?_
 refine E_seq ?_
 refine E_seq ?_
 refine e_tidy_A37_2 [0,2] ?_
 refine E_region' (L:=[0,1]) rfl ?_
 refine xmv ?_
 refine x_call rfl rfl rfl rfl rfl ca_10 (c_laws_big l) ?_
 rintro r S ⟨rfl,rfl⟩
 refine EOps_nil ?_
 refine E_cond rfl (fun hc20=>?_) (fun hc20=>?_)
 ·refine E_seq ?_
  refine E_region' (L:=[0]) rfl ?_
  refine xas ?_
  refine EOps_nil ?_
  refine E_ret ?_
  exact⟨_,[],rfl,rfl,rfl,rfl⟩
 have hb : byL l := ⟨hb0, by simp at hc20; omega⟩
 refine E_skip ?_
 refine E_seq ?_
 refine e_tidy_A37_2 [0,2,20] ?_
 refine E_region' (L:=[0,1,2,3,4,5,6,7]) rfl ?_
 refine xmv ?_
 refine x_call rfl rfl rfl rfl rfl ca_51 (c_spec_DrawSmallestValues l hb) ?_ (hq:=by rintro r S ⟨_,_,⟨rfl,rfl⟩,_,_,_⟩;exact⟨rfl,rfl⟩)
 rintro r S ⟨c,k,⟨rfl,rfl⟩,hcv,hcr,hcp⟩
 have hcb:c.vals.length≤1048576∧c.rows.length≤1048576∧c.piv.length≤1048576:=by omega
 refine xmv ?_
 refine p_ rfl (L_extract rfl rfl) ?_
 refine p_ rfl (L_extract rfl rfl) ?_
 refine x_alloc rfl rfl rfl rfl za_27 ?_
 refine EOps_go rfl rfl (EOp_store rfl rfl rfl (xb1 ty_27) ?_)
 refine xas ?_
 refine EOps_nil ?_
 refine E_seq ?_
 refine e_tidy_A37_2 [0,2,3,4,20] ?_
 refine E_region' (L:=[0,1,2,3,4,5,6,7,8]) rfl ?_
 refine l_ rfl (L_load rfl (xb0 ty_27)) ?_
 refine xmv ?_
 refine x_call rfl rfl rfl rfl rfl ca_52 (c_impl_SmallestValues c k hcb) ?_
 rintro r S ⟨rfl,rfl⟩
 refine xmv ?_
 refine p_ rfl (L_extract rfl rfl) ?_
 refine p_ rfl (L_extract rfl rfl) ?_
 refine x_alloc rfl rfl rfl rfl za_27 ?_
 refine EOps_go rfl rfl (EOp_store rfl rfl rfl (xb1 ty_27) ?_)
 refine xas ?_
 refine EOps_nil ?_
 refine E_seq ?_
 refine e_tidy_A37_2 [0,2,3,4,5,6,20] ?_
 refine E_region' (L:=[0,1,2,3,4,5,6,7,8]) rfl ?_
 refine l_ rfl (L_load rfl (xb0 ty_27)) ?_
 refine xmv ?_
 refine x_call rfl rfl rfl rfl rfl ca_53 (c_spec_SmallestValues c k hcb) ?_
 rintro r S ⟨rfl,rfl⟩
 refine xmv ?_
 refine p_ rfl (L_extract rfl rfl) ?_
 refine p_ rfl (L_extract rfl rfl) ?_
 refine x_alloc rfl rfl rfl rfl za_27 ?_
 refine EOps_go rfl rfl (EOp_store rfl rfl rfl (xb1 ty_27) ?_)
 refine xas ?_
 refine EOps_nil ?_
 refine E_seq ?_
 refine E_seq ?_
 refine e_tidy_A37_2 [0,2,3,4,5,6,7,8,20] ?_
 refine E_region' (L:=[0,1,2,3,4,5,6,7,8,9]) rfl ?_
 refine l_ rfl (L_load rfl (xb0 ty_27)) ?_
 refine l_ rfl (L_load rfl (xb0 ty_27)) ?_
 refine x_call rfl rfl rfl rfl rfl ca_16 (c_spec_EqualCrackers (cpC c k) (cpC c k)) ?_
 rintro r S ⟨rfl,rfl⟩
 refine p_ rfl (L_not rfl rfl) ?_
 refine xmv ?_
 refine EOps_split 42 (b:=_) rfl (fun hg42=>?_) (fun hg42=>?_)
 ·simp at hg42
 refine xmv ?_
 refine xmv ?_
 refine x_call rfl rfl rfl rfl rfl ca_25 (c_laws_sameInts (smL c k) (smL c k)) ?_ (ha:=by refine cons_eq ?_ (cons_eq ?_ rfl)<;>first|exact lend_cutI rfl rfl|(refine lend_whole rfl ?_;first|assumption|rfl|exact ints_len _))
 rintro r S ⟨rfl,rfl⟩
 refine p_ rfl (L_not rfl rfl) ?_
 refine p_ rfl (L_pick rfl rfl) ?_
 refine EOps_nil ?_
 refine E_cond rfl (fun hc47=>?_) (fun hc47=>?_)
 ·simp at hc47
 refine E_skip ?_
 refine E_seq ?_
 refine E_seq ?_
 refine e_tidy_A37_2 [0,2,3,4,5,6,7,8,20,47] ?_
 refine E_region' (L:=[0,1,2,3,4,5,6,7,8,9,10,11,12,13]) rfl ?_
 refine l_ rfl (L_load rfl (xb0 ty_27)) ?_
 refine x_call rfl rfl rfl rfl rfl ca_21 (c_spec_IsCracker c) ?_
 rintro r S ⟨rfl,rfl⟩
 refine p_ rfl (L_not rfl rfl) ?_
 refine xmv ?_
 refine EOps_split 51 (b:=_) rfl (fun hg51=>?_) (fun hg51=>?_)
 ·refine s_ rfl ?_
  refine s_ rfl ?_
  refine p_ rfl (L_pick rfl rfl) ?_
  refine xmv ?_
  refine s_ rfl ?_
  refine s_ rfl ?_
  refine s_ rfl ?_
  refine s_ rfl ?_
  refine s_ rfl ?_
  refine p_ rfl (L_pick rfl rfl) ?_
  refine EOps_nil ?_
  refine E_cond rfl (fun hc61=>?_) (fun hc61=>?_)
  ·have hk : cpK c k = false := by
    cases hK:cpK c k
    ·rfl
    exfalso
    obtain⟨q1,q2,q3⟩:=cpK_parts hK
    first
     | (simp [q1] at hg51;done)
     | (simp at hg55;omega)
     | (simp [ints_len] at hc61;omega)
   have hcc:cpC c k=c∧smL c k=[]:=by simp [cpC,smL,hk]
   rw [hcc.1,hcc.2]
   refine E_seq ?_
   refine e_tidy_A37_2 [0,2,3,4,5,6,7,8,20,47,61] ?_
   refine E_region' (L:=[0,1,2,3,4,5,6,7,8]) rfl ?_
   refine xmv ?_
   refine p_ rfl (l_len rfl sl_24) ?_
   refine p_ rfl (L_bin rfl rfl rfl rfl) ?_
   refine xmv ?_
   refine EOps_split 65 (b:=_) rfl (fun hg65=>?_) (fun hg65=>?_)
   ·refine l_ rfl (L_load rfl (xb5 ty_27)) ?_
    refine l_ rfl (L_load rfl (xb0 ty_27)) ?_
    refine x_call rfl rfl rfl rfl rfl ca_16 (c_spec_EqualCrackers c c) ?_
    rintro r S ⟨rfl,rfl⟩
    refine p_ rfl (L_pick rfl rfl) ?_
    refine xas ?_
    refine EOps_nil ?_
    refine E_ret ?_
    refine⟨_,[],rfl,rfl,bool_eq ?_,rfl⟩
    simp
   simp at hg65
  exact Bool.noConfusion (hc61:true=false)
 refine xmv ?_
 refine p_ rfl (L_bin rfl rfl rfl rfl) ?_
 refine p_ rfl (L_pick rfl rfl) ?_
 refine xmv ?_
 refine EOps_split 55 (b:=_) rfl (fun hg55=>?_) (fun hg55=>?_)
 ·refine s_ rfl ?_
  refine s_ rfl ?_
  refine s_ rfl ?_
  refine s_ rfl ?_
  refine s_ rfl ?_
  refine p_ rfl (L_pick rfl rfl) ?_
  refine EOps_nil ?_
  refine E_cond rfl (fun hc61=>?_) (fun hc61=>?_)
  ·have hk : cpK c k = false := by
    cases hK:cpK c k
    ·rfl
    exfalso
    obtain⟨q1,q2,q3⟩:=cpK_parts hK
    first
     | (simp [q1] at hg51;done)
     | (simp at hg55;omega)
     | (simp [ints_len] at hc61;omega)
   have hcc:cpC c k=c∧smL c k=[]:=by simp [cpC,smL,hk]
   rw [hcc.1,hcc.2]
   refine E_seq ?_
   refine e_tidy_A37_2 [0,2,3,4,5,6,7,8,20,47,61] ?_
   refine E_region' (L:=[0,1,2,3,4,5,6,7,8]) rfl ?_
   refine xmv ?_
   refine p_ rfl (l_len rfl sl_24) ?_
   refine p_ rfl (L_bin rfl rfl rfl rfl) ?_
   refine xmv ?_
   refine EOps_split 65 (b:=_) rfl (fun hg65=>?_) (fun hg65=>?_)
   ·refine l_ rfl (L_load rfl (xb5 ty_27)) ?_
    refine l_ rfl (L_load rfl (xb0 ty_27)) ?_
    refine x_call rfl rfl rfl rfl rfl ca_16 (c_spec_EqualCrackers c c) ?_
    rintro r S ⟨rfl,rfl⟩
    refine p_ rfl (L_pick rfl rfl) ?_
    refine xas ?_
    refine EOps_nil ?_
    refine E_ret ?_
    refine⟨_,[],rfl,rfl,bool_eq ?_,rfl⟩
    simp
   simp at hg65
  exact Bool.noConfusion (hc61:true=false)
 refine xmv ?_
 refine p_ rfl (l_field rfl fo_27_0) ?_
 refine l_ rfl (L_load rfl (xb0 ty_24)) ?_
 refine p_ rfl (l_len rfl sl_24) ?_
 refine p_ rfl (L_bin rfl rfl rfl rfl) ?_
 refine p_ rfl (L_pick rfl rfl) ?_
 refine EOps_nil ?_
 refine E_cond rfl (fun hc61=>?_) (fun hc61=>?_)
 ·have hk : cpK c k = false := by
   cases hK:cpK c k
   ·rfl
   exfalso
   obtain⟨q1,q2,q3⟩:=cpK_parts hK
   first
    | (simp [q1] at hg51;done)
    | (simp at hg55;omega)
    | (simp [ints_len] at hc61;omega)
  have hcc:cpC c k=c∧smL c k=[]:=by simp [cpC,smL,hk]
  rw [hcc.1,hcc.2]
  refine E_seq ?_
  refine e_tidy_A37_2 [0,2,3,4,5,6,7,8,20,47,61] ?_
  refine E_region' (L:=[0,1,2,3,4,5,6,7,8]) rfl ?_
  refine xmv ?_
  refine p_ rfl (l_len rfl sl_24) ?_
  refine p_ rfl (L_bin rfl rfl rfl rfl) ?_
  refine xmv ?_
  refine EOps_split 65 (b:=_) rfl (fun hg65=>?_) (fun hg65=>?_)
  ·refine l_ rfl (L_load rfl (xb5 ty_27)) ?_
   refine l_ rfl (L_load rfl (xb0 ty_27)) ?_
   refine x_call rfl rfl rfl rfl rfl ca_16 (c_spec_EqualCrackers c c) ?_
   rintro r S ⟨rfl,rfl⟩
   refine p_ rfl (L_pick rfl rfl) ?_
   refine xas ?_
   refine EOps_nil ?_
   refine E_ret ?_
   refine⟨_,[],rfl,rfl,bool_eq ?_,rfl⟩
   simp
  simp at hg65
 have hic : isCrk c = true := by simpa using hg51
 have hk0:0≤k:=by simp at hg55;omega
 have hkn:k≤c.vals.length:=by simp [ints_len] at hc61;omega
 have hk:cpK c k=true:=by simp only [cpK,Bool.and_eq_true,decide_eq_true_eq];exact⟨⟨hic,hk0⟩,hkn⟩
 obtain⟨kn,rfl⟩:∃ kn:Nat,k=(kn:Int):=⟨k.toNat,by omega⟩
 obtain⟨s1,s2,s3,s4,s5⟩:=sm_law hk
 obtain⟨l1,l2⟩:=lg_law hk
 have hsl:=sortI_len c.vals
 have hv1:=kv_crk (k:=(kn:Int)) hic
 have hkv:=kvK_is (k:=kn) hic
 have e4:smL c kn=cutV (sortI c.vals) ((0:Nat):Int) (kn:Int):=by rw [s4,cutV_take,Int.toNat_natCast]
 refine E_skip ?_
 refine E_seq ?_
 refine e_tidy_A37_2 [0,2,3,4,5,6,7,8,20,47,61] ?_
 refine E_region' (L:=[0,1,2,3]) rfl ?_
 refine p_ rfl (l_field rfl fo_27_0) ?_
 refine l_ rfl (L_load rfl (xb0 ty_24)) ?_
 refine x_call rfl rfl rfl rfl rfl ca_54 (c_spec_SortInts c.vals (by omega)) ?_
 rintro r S ⟨rfl,rfl⟩
 refine xas ?_
 refine EOps_nil ?_
 refine E_seq ?_
 refine e_tidy_A37_2 [0,2,3,4,5,6,7,8,9,20,47,61] ?_
 refine E_region' (L:=[0,1,2,3,4,5,6,7,8,9,10]) rfl ?_
 refine l_ rfl (L_load rfl (xb0 ty_27)) ?_
 refine xmv ?_
 refine x_call rfl rfl rfl rfl rfl ca_55 (c_impl_CrackPosition c kn hcb) ?_
 rintro r S ⟨rfl,rfl⟩
 refine xmv ?_
 refine p_ rfl (L_extract rfl rfl) ?_
 refine p_ rfl (L_extract rfl rfl) ?_
 refine p_ rfl (L_extract rfl rfl) ?_
 refine x_alloc rfl rfl rfl rfl za_27 ?_
 refine EOps_go rfl rfl (EOp_store rfl rfl rfl (xb1 ty_27) ?_)
 refine xas ?_
 refine xas ?_
 refine EOps_nil ?_
 refine E_seq ?_
 refine e_tidy_A37_2 [0,2,3,4,5,6,7,8,9,11,12,20,47,61] ?_
 refine E_region' (L:=[0,1,2,3,4,5,6,7,8,9,10]) rfl ?_
 refine l_ rfl (L_load rfl (xb0 ty_27)) ?_
 refine xmv ?_
 refine x_call rfl rfl rfl rfl rfl ca_56 (c_impl_KthValue c kn hcb) ?_
 rintro r S ⟨rfl,rfl⟩
 refine xmv ?_
 refine p_ rfl (L_extract rfl rfl) ?_
 refine p_ rfl (L_extract rfl rfl) ?_
 refine p_ rfl (L_extract rfl rfl) ?_
 refine x_alloc rfl rfl rfl rfl za_27 ?_
 refine EOps_go rfl rfl (EOp_store rfl rfl rfl (xb1 ty_27) ?_)
 refine xas ?_
 refine xas ?_
 refine EOps_nil ?_
 refine E_seq ?_
 refine e_tidy_A37_2 [0,2,3,4,5,6,7,8,9,11,12,13,14,15,20,47,61] ?_
 refine E_region' (L:=[0,1,2,3,4,5,6,7,8]) rfl ?_
 refine l_ rfl (L_load rfl (xb0 ty_27)) ?_
 refine xmv ?_
 refine x_call rfl rfl rfl rfl rfl ca_57 (c_impl_LargestValues c kn hcb) ?_
 rintro r S ⟨rfl,rfl⟩
 refine xmv ?_
 refine p_ rfl (L_extract rfl rfl) ?_
 refine p_ rfl (L_extract rfl rfl) ?_
 refine x_alloc rfl rfl rfl rfl za_27 ?_
 refine EOps_go rfl rfl (EOp_store rfl rfl rfl (xb1 ty_27) ?_)
 refine xas ?_
 refine EOps_nil ?_
 refine E_seq ?_
 refine E_seq ?_
 refine e_tidy_A37_2 [0,2,3,4,5,6,7,8,9,11,12,13,14,15,17,20,47,61] ?_
 refine E_drawT mixed ?_
 refine tj_ 0 rfl (L_move rfl) ?_
 refine tj_ 1 rfl (L_not rfl rfl) ?_
 refine tj_ 2 rfl (L_move rfl) ?_
 refine T_split 95 (b:=_) rfl rfl (fun hg95=>?_) (fun hg95=>?_)
 ·simp [hk] at hg95
 refine tj_ 3 rfl (L_move rfl) ?_
 refine tj_ 4 rfl (l_field rfl fo_27_0) ?_
 refine tl_ 5 rfl (L_load rfl (xb0 ty_24)) ?_
 refine tj_ 6 rfl (l_len rfl sl_24) ?_
 refine t_call 7 rfl rfl rfl rfl rfl ca_58 (c_impl_Levels c.vals.length (by omega)) ?_
 rintro r S ⟨rfl,rfl⟩
 refine tj_ 8 rfl (L_bin rfl rfl rfl rfl) ?_
 refine tj_ 9 rfl (L_pick rfl rfl) ?_
 refine tj_ 10 rfl (L_move rfl) ?_
 refine T_split 103 (b:=_) rfl rfl (fun hg103=>?_) (fun hg103=>?_)
 ·exfalso;simp at hg103;omega
 refine tj_ 11 rfl (L_move rfl) ?_
 refine tj_ 12 rfl (L_move rfl) ?_
 refine tj_ 13 rfl (L_move rfl) ?_
 refine tj_ 14 rfl (by first|exact L_slice_ro (l:=0) (h:=kn) rfl sl_24 ty_3 rfl rfl rfl (by first|omega|(simp [ints_len,pairs_len,quads_len,quints_len,bools_len];omega)|(simp [ints_len,pairs_len,quads_len,quints_len,bools_len] at *;omega)) (by first|omega|(simp [ints_len,pairs_len,quads_len,quints_len,bools_len];omega)|(simp [ints_len,pairs_len,quads_len,quints_len,bools_len] at *;omega)) (by first|exact fun r hr=>(ints_row _ r hr).1|exact fun r hr=>(pairs_row _ r hr).1|exact fun r hr=>(quads_row _ r hr).1|exact fun r hr=>(quints_row _ r hr).1|exact fun r hr=>(bools_row _ r hr).1)|exact L_slice_sl (l:=0) (h:=kn) rfl sl_24 ty_3 rfl (by first|rfl|assumption) (by first|assumption|exact ints_len _|exact pairs_len _|exact quads_len _|exact quints_len _|exact bools_len _|(simp [ints_len,bools_len,pairs_len,quads_len,quints_len,part_len, *];done)|(simp [ints_len,bools_len,pairs_len,quads_len,quints_len];omega)|rfl) rfl rfl (by first|omega|(simp [ints_len,pairs_len,quads_len,quints_len,bools_len];omega)|(simp [ints_len,pairs_len,quads_len,quints_len,bools_len] at *;omega)) (by first|omega|(simp [ints_len,pairs_len,quads_len,quints_len,bools_len];omega)|(simp [ints_len,pairs_len,quads_len,quints_len,bools_len] at *;omega))) ?_
 refine t_call 15 rfl rfl rfl rfl rfl ca_25 (c_laws_sameInts (smL c kn) (cutV (sortI c.vals) ((0:Nat):Int) (kn:Int))) ?_ (ha:=by refine cons_eq ?_ (cons_eq ?_ rfl)<;>first|exact lend_cutI rfl rfl|(refine lend_whole rfl ?_;first|assumption|rfl|exact ints_len _))
 rintro r S ⟨rfl,rfl⟩
 refine tj_ 16 rfl (L_not rfl rfl) ?_
 refine tj_ 17 rfl (L_pick rfl rfl) ?_
 refine tj_ 18 rfl (L_move rfl) ?_
 refine T_split 111 (b:=_) rfl rfl (fun hg111=>?_) (fun hg111=>?_)
 ·simp [e4] at hg111
 refine tl_ 19 rfl (L_load rfl (xb5 ty_27)) ?_
 refine t_call 20 rfl rfl rfl rfl rfl ca_28 (c_impl_IsCracker (cpC c kn)) ?_
 rintro r S ⟨rfl,rfl⟩
 refine tj_ 21 rfl (L_not rfl rfl) ?_
 refine tj_ 22 rfl (L_pick rfl rfl) ?_
 refine tj_ 23 rfl (L_move rfl) ?_
 refine T_split 116 (b:=_) rfl rfl (fun hg116=>?_) (fun hg116=>?_)
 ·simp [s1] at hg116
 refine tl_ 24 rfl (L_load rfl (xb5 ty_27)) ?_
 refine tl_ 26 rfl (L_load rfl (xb0 ty_27)) ?_
 refine t_fresh 33 [(⟨none,25,118,0⟩,_),(⟨none,27,120,0⟩,_)] [(118,.any),(120,.any)] [25,27] ⟨.one rfl rfl rfl (by decide) (f_call rfl rfl ca_29 (c_laws_pairsOf (cpC c kn) s1)),.one rfl rfl rfl (by decide) (f_call rfl rfl ca_29 (c_laws_pairsOf c hic)),trivial⟩ ?_
 refine fk_cons ?_
 rintro r S ⟨rfl,rfl⟩
 refine fk_cons ?_
 rintro r S ⟨rfl,rfl⟩
 refine fk_nil ?_
 refine t_call 28 rfl rfl rfl rfl rfl ca_25 (c_laws_sameInts (prL (cpC c kn)) (prL c)) ?_ (ha:=by refine cons_eq ?_ (cons_eq ?_ rfl)<;>first|exact lend_cutI rfl rfl|(refine lend_whole rfl ?_;first|assumption|rfl|exact ints_len _))
 rintro r S ⟨rfl,rfl⟩
 refine tj_ 29 rfl (L_not rfl rfl) ?_
 refine tj_ 30 rfl (L_pick rfl rfl) ?_
 refine tj_ 31 rfl (L_move rfl) ?_
 refine T_split 124 (b:=_) rfl rfl (fun hg124=>?_) (fun hg124=>?_)
 ·simp [s2] at hg124
 refine tj_ 32 rfl (L_move rfl) ?_
 refine tj_ 33 rfl (L_move rfl) ?_
 refine tj_ 34 rfl (L_move rfl) ?_
 refine tj_ 35 rfl (l_len rfl sl_24) ?_
 refine tj_ 36 rfl (L_bin rfl rfl rfl rfl) ?_
 refine tj_ 37 rfl (L_binB rfl bo_4 rfl rfl rfl) ?_
 refine tj_ 38 rfl (L_pick rfl rfl) ?_
 refine tj_ 39 rfl (L_move rfl) ?_
 refine T_split 132 (b:=_) rfl rfl (fun hg132=>?_) (fun hg132=>?_)
 ·exfalso;simp [hkv] at hg132
 clear hg132
 refine tj_ 40 rfl (L_move rfl) ?_
 refine tj_ 41 rfl (L_move rfl) ?_
 refine T_split 134 (b:=_) rfl rfl (fun hg134=>?_) (fun hg134=>?_)
 ·have hkk : kvK c kn = true := hg134
  have hyl:=kv_lt hkk
  have hy:=kv_at hkk
  have v3:=kv_val hkk
  refine tj_ 42 rfl (L_move rfl) ?_
  refine tj_ 43 rfl (L_move rfl) ?_
  refine tj_ 44 rfl (L_move rfl) ?_
  refine tj_ 45 rfl (L_index rfl rfl (xii sl_24 ty_3)) ?_
  refine tl_ 46 rfl (L_load rfl (xb0 ty_3)) ?_
  refine tj_ 47 rfl (L_bin rfl rfl rfl rfl) ?_
  refine tj_ 48 rfl (L_pick rfl rfl) ?_
  refine tj_ 49 rfl (L_pick rfl rfl) ?_
  refine tj_ 50 rfl (L_move rfl) ?_
  refine T_split 143 (b:=_) rfl rfl (fun hg143=>?_) (fun hg143=>?_)
  ·first|(rw [v3] at hg143;simp at hg143;done)|(simp at hg143;done)
  refine tl_ 51 rfl (L_load rfl (xb5 ty_27)) ?_
  refine t_call 52 rfl rfl rfl rfl rfl ca_28 (c_impl_IsCracker (kvC c kn)) ?_
  rintro r S ⟨rfl,rfl⟩
  refine tj_ 53 rfl (L_not rfl rfl) ?_
  refine tj_ 54 rfl (L_pick rfl rfl) ?_
  refine tj_ 55 rfl (L_move rfl) ?_
  refine T_split 148 (b:=_) rfl rfl (fun hg148=>?_) (fun hg148=>?_)
  ·simp [hv1] at hg148
  refine tj_ 56 rfl (L_move rfl) ?_
  refine tj_ 57 rfl (l_len rfl sl_24) ?_
  refine tj_ 58 rfl (L_move rfl) ?_
  refine tj_ 59 rfl (L_bin rfl rfl rfl rfl) ?_
  refine tj_ 60 rfl (L_pick rfl rfl) ?_
  refine T_done (by kernel_rfl) ?_
  refine E_cond rfl (fun hc153=>?_) (fun hc153=>?_)
  ·exfalso;simp at hc153;first|exact hc153 l1|omega
  clear hkv hc153
  refine E_skip ?_
  refine E_seq ?_
  refine E_seq ?_
  refine E_region' (L:=[0]) rfl ?_
  refine xas ?_
  refine EOps_nil ?_
  refine E_block ?_
  refine e_for_A37_3 (α:=Nat) [0,3,4,5,6,7,8,9,11,12,13,14,15,17,20,47,61,153] (fun i=>[(18,.c (.sc (.int .i64 ((i:Int))))),(2,.any)]) (fun _=>_) (fun i=>i≤kn) (fun i=>kn - i) (0) ?_ (rfl) ⟨.inr rfl,.inl rfl,trivial⟩ ?_
  ·simp
  rintro i hil
  refine E_seq ?_
  refine E_seq ?_
  refine E_region' (L:=[0,1,2]) rfl ?_
  refine xmv ?_
  refine xmv ?_
  refine p_ rfl (L_bin rfl rfl rfl rfl) ?_
  refine EOps_nil ?_
  refine E_cond rfl (fun hc156=>?_) (fun hc156=>?_)
  ·have hi1 : i < kn := by simp at hc156; omega
   obtain⟨y,hy⟩:=at_lt (l:=lgL c kn) (k:=i) (by omega)
   obtain⟨z,hz⟩:=at_lt (l:=sortI c.vals) (k:=c.vals.length - 1 - i) (by omega)
   have hyz : y = z := by
    have:=l2 i (by omega)
    rw [getD_of hy,getD_of hz] at this
    exact this
   subst hyz
   have hz' : (sortI c.vals)[(((sortI c.vals).length : Int) - 1 - (i : Int)).toNat]? = some y := by
    rw [show (((sortI c.vals).length:Int) - 1 - (i:Int)).toNat=c.vals.length - 1 - i by omega];exact hz
   refine E_skip ?_
   refine E_seq ?_
   refine E_block ?_
   refine E_seq ?_
   refine E_drawT mixed ?_
   refine tj_ 0 rfl (L_move rfl) ?_
   refine tj_ 1 rfl (L_move rfl) ?_
   refine tj_ 2 rfl (L_index rfl rfl (xii sl_24 ty_3)) ?_
   refine tl_ 3 rfl (L_load rfl (xb0 ty_3)) ?_
   refine tj_ 4 rfl (L_move rfl) ?_
   refine tj_ 5 rfl (L_move rfl) ?_
   refine tj_ 6 rfl (l_len rfl sl_24) ?_
   refine tj_ 7 rfl xb4 ?_
   refine tj_ 8 rfl (L_move rfl) ?_
   refine tj_ 9 rfl xb4 ?_
   refine tj_ 10 rfl (L_index rfl rfl (xii sl_24 ty_3)) ?_
   refine tl_ 11 rfl (L_load rfl (xb0 ty_3)) ?_
   refine tj_ 12 rfl (L_bin rfl rfl rfl rfl) ?_
   refine T_done (by kernel_rfl) ?_
   refine E_cond rfl (fun hc171=>?_) (fun hc171=>?_)
   ·simp at hc171
   refine E_skip ?_
   refine E_region' (L:=[0,1,2]) rfl ?_
   refine xmv ?_
   refine p_ rfl xb2 ?_
   refine xas ?_
   refine EOps_nil ?_
   refine⟨i+1,?_,?_,rfl,⟨.inr rfl,.inl rfl,trivial⟩,⟨.inr rfl,.inr rfl,.inr rfl,.inr rfl,.inr rfl,.inr rfl,.inr rfl,.inr rfl,.inr rfl,.inr rfl,.inr rfl,.inr rfl,.inr rfl,.inr rfl,.inr rfl,.inr rfl,.inr rfl,.inr rfl,trivial⟩⟩
   ·first|omega|(dsimp only;omega)|(simp;omega)
   first|trivial|omega|(dsimp only;omega)|(simp;omega)
  refine E_exit ?_
  refine E_seq ?_
  refine E_region' (L:=[0]) rfl ?_
  refine xas ?_
  refine EOps_nil ?_
  refine E_ret ?_
  refine⟨_,[],rfl,rfl,bool_eq ?_,rfl⟩
  simp
 refine tk_ 42 rfl ?_
 refine tk_ 43 rfl ?_
 refine tk_ 44 rfl ?_
 refine tk_ 45 rfl ?_
 refine tk_ 46 rfl ?_
 refine tk_ 47 rfl ?_
 refine tj_ 48 rfl (L_pick rfl rfl) ?_
 refine tj_ 49 rfl (L_pick rfl rfl) ?_
 refine tj_ 50 rfl (L_move rfl) ?_
 refine tl_ 51 rfl (L_load rfl (xb0 ty_27)) ?_
 refine t_call 52 rfl rfl rfl rfl rfl ca_28 (c_impl_IsCracker (kvC c kn)) ?_
 rintro r S ⟨rfl,rfl⟩
 refine tj_ 53 rfl (L_not rfl rfl) ?_
 refine tj_ 54 rfl (L_pick rfl rfl) ?_
 refine tj_ 55 rfl (L_move rfl) ?_
 refine T_split 148 (b:=_) rfl rfl (fun hg148=>?_) (fun hg148=>?_)
 ·simp [hv1] at hg148
 refine tj_ 56 rfl (L_move rfl) ?_
 refine tj_ 57 rfl (l_len rfl sl_24) ?_
 refine tj_ 58 rfl (L_move rfl) ?_
 refine tj_ 59 rfl (L_bin rfl rfl rfl rfl) ?_
 refine tj_ 60 rfl (L_pick rfl rfl) ?_
 refine T_done (by kernel_rfl) ?_
 refine E_cond rfl (fun hc153=>?_) (fun hc153=>?_)
 ·exfalso;simp at hc153;first|exact hc153 l1|omega
 clear hkv hc153
 refine E_skip ?_
 refine E_seq ?_
 refine E_seq ?_
 refine E_region' (L:=[0]) rfl ?_
 refine xas ?_
 refine EOps_nil ?_
 refine E_block ?_
 refine e_for_A37_3 (α:=Nat) [0,3,4,5,6,7,8,9,11,12,13,14,15,17,20,47,61,153] (fun i=>[(18,.c (.sc (.int .i64 ((i:Int))))),(2,.any)]) (fun _=>_) (fun i=>i≤kn) (fun i=>kn - i) (0) ?_ (rfl) ⟨.inr rfl,.inl rfl,trivial⟩ ?_
 ·simp
 rintro i hil
 refine E_seq ?_
 refine E_seq ?_
 refine E_region' (L:=[0,1,2]) rfl ?_
 refine xmv ?_
 refine xmv ?_
 refine p_ rfl (L_bin rfl rfl rfl rfl) ?_
 refine EOps_nil ?_
 refine E_cond rfl (fun hc156=>?_) (fun hc156=>?_)
 ·have hi1 : i < kn := by simp at hc156; omega
  obtain⟨y,hy⟩:=at_lt (l:=lgL c kn) (k:=i) (by omega)
  obtain⟨z,hz⟩:=at_lt (l:=sortI c.vals) (k:=c.vals.length - 1 - i) (by omega)
  have hyz : y = z := by
   have:=l2 i (by omega)
   rw [getD_of hy,getD_of hz] at this
   exact this
  subst hyz
  have hz' : (sortI c.vals)[(((sortI c.vals).length : Int) - 1 - (i : Int)).toNat]? = some y := by
   rw [show (((sortI c.vals).length:Int) - 1 - (i:Int)).toNat=c.vals.length - 1 - i by omega];exact hz
  refine E_skip ?_
  refine E_seq ?_
  refine E_block ?_
  refine E_seq ?_
  refine E_drawT mixed ?_
  refine tj_ 0 rfl (L_move rfl) ?_
  refine tj_ 1 rfl (L_move rfl) ?_
  refine tj_ 2 rfl (L_index rfl rfl (xii sl_24 ty_3)) ?_
  refine tl_ 3 rfl (L_load rfl (xb0 ty_3)) ?_
  refine tj_ 4 rfl (L_move rfl) ?_
  refine tj_ 5 rfl (L_move rfl) ?_
  refine tj_ 6 rfl (l_len rfl sl_24) ?_
  refine tj_ 7 rfl xb4 ?_
  refine tj_ 8 rfl (L_move rfl) ?_
  refine tj_ 9 rfl xb4 ?_
  refine tj_ 10 rfl (L_index rfl rfl (xii sl_24 ty_3)) ?_
  refine tl_ 11 rfl (L_load rfl (xb0 ty_3)) ?_
  refine tj_ 12 rfl (L_bin rfl rfl rfl rfl) ?_
  refine T_done (by kernel_rfl) ?_
  refine E_cond rfl (fun hc171=>?_) (fun hc171=>?_)
  ·simp at hc171
  refine E_skip ?_
  refine E_region' (L:=[0,1,2]) rfl ?_
  refine xmv ?_
  refine p_ rfl xb2 ?_
  refine xas ?_
  refine EOps_nil ?_
  refine⟨i+1,?_,?_,rfl,⟨.inr rfl,.inl rfl,trivial⟩,⟨.inr rfl,.inr rfl,.inr rfl,.inr rfl,.inr rfl,.inr rfl,.inr rfl,.inr rfl,.inr rfl,.inr rfl,.inr rfl,.inr rfl,.inr rfl,.inr rfl,.inr rfl,.inr rfl,.inr rfl,.inr rfl,trivial⟩⟩
  ·first|omega|(dsimp only;omega)|(simp;omega)
  first|trivial|omega|(dsimp only;omega)|(simp;omega)
 refine E_exit ?_
 refine E_seq ?_
 refine E_region' (L:=[0]) rfl ?_
 refine xas ?_
 refine EOps_nil ?_
 refine E_ret ?_
 refine⟨_,[],rfl,rfl,bool_eq ?_,rfl⟩
 simp

end Go.Proofs.Ytcepgfcolmdnoaa.E
