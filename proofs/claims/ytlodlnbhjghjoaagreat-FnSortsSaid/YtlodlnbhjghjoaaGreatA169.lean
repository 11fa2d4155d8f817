/- Walks through functions, by program out of the session's annotations. -/
import Derived.Test.YtlodlnbhjghjoaaGreatA166
import Derived.Test.YtlodlnbhjghjoaaGreatA165
import Derived.Test.YtlodlnbhjghjoaaGreatA73
import Derived.Test.YtlodlnbhjghjoaaGreatA72
import Derived.Test.YtlodlnbhjghjoaaGreatA122
namespace Go.Proofs.YtlodlnbhjghjoaaGreat.E
open Go Go.RowKit Go.Proofs
set_option linter.unusedVariables false
set_option linter.unusedSimpArgs false

set_option maxRecDepth 20000 in
set_option maxHeartbeats 16000000 in
theorem c_laws_FnSorts (l : List Int) (hb0 : ∀ x ∈ l, 0 ≤ x ∧ x ≤ 255) : EFn Tryz.prog 11 [.c (.ro (bytes l))] [] (fun r S => r = .c (.sc (.bool true)) ∧ S = []) := by
 refine E_fn Tryz.func11 rfl (Nat.le_of_ble_eq_true rfl) ?_
 refine E_seq ?_
 refine E_region' (L:=[0]) rfl ?_
 refine xas ?_
 refine EOps_nil ?_
 refine E_seq ?_
 refine E_seq ?_
 refine e_tidy_A37_2 [0,2] ?_
 refine E_region' (L:=[0,1]) rfl ?_
 refine xmv ?_
 refine x_call rfl rfl rfl rfl rfl ca_35 (c_laws_big l) ?_
 rintro r S ⟨rfl,rfl⟩
 refine EOps_nil ?_
 refine E_cond rfl (fun hc21=>?_) (fun hc21=>?_)
 ·refine E_seq ?_
  refine E_region' (L:=[0]) rfl ?_
  refine xas ?_
  refine EOps_nil ?_
  refine E_ret ?_
  exact⟨_,[],rfl,rfl,rfl,rfl⟩
 have hb : byL l := ⟨hb0, by simp at hc21; omega⟩
 refine E_skip ?_
 refine E_seq ?_
 refine e_tidy_A37_2 [0,2,21] ?_
 refine E_region' (L:=[0,1,2,3,4,5,6,7,8]) rfl ?_
 refine xmv ?_
 refine x_call rfl rfl rfl rfl rfl ca_77 (c_spec_DrawSortedRange l hb) ?_ (hq:=by rintro r S ⟨_,_,⟨rfl,rfl⟩,_,_,_⟩;exact⟨rfl,rfl⟩)
 rintro r S ⟨c,x,⟨rfl,rfl⟩,hcv,hcr,hcp⟩
 have hcb:c.vals.length≤1048576∧c.rows.length≤1048576∧c.piv.length≤1048576:=by omega
 refine xmv ?_
 refine p_ rfl (L_extract rfl rfl) ?_
 refine p_ rfl (L_extract rfl rfl) ?_
 refine x_alloc rfl rfl rfl rfl za_49 ?_
 refine x_alloc rfl rfl rfl rfl za_53 ?_
 refine EOps_go rfl rfl (EOp_store rfl rfl rfl (xb1 ty_49) ?_)
 refine EOps_go rfl rfl (EOp_store rfl rfl rfl (xb1 ty_53) ?_)
 refine EOps_nil ?_
 refine E_seq ?_
 refine e_tidy_A37_2 [0,2,3,4,21] ?_
 refine E_region' (L:=[0,1,2,3,4,5,6,7,8]) rfl ?_
 refine l_ rfl (L_load rfl (xb0 ty_49)) ?_
 refine l_ rfl (L_load rfl (xb0 ty_53)) ?_
 refine x_call rfl rfl rfl rfl rfl ca_78 (c_impl_SortedRange c x hcb) ?_
 rintro r S ⟨rfl,rfl⟩
 refine xmv ?_
 refine p_ rfl (L_extract rfl rfl) ?_
 refine p_ rfl (L_extract rfl rfl) ?_
 refine x_alloc rfl rfl rfl rfl za_49 ?_
 refine EOps_go rfl rfl (EOp_store rfl rfl rfl (xb1 ty_49) ?_)
 refine xas ?_
 refine EOps_nil ?_
 refine E_seq ?_
 refine e_tidy_A37_2 [0,2,3,4,5,6,21] ?_
 refine E_region' (L:=[0,1,2,3,4,5,6,7,8]) rfl ?_
 refine l_ rfl (L_load rfl (xb0 ty_49)) ?_
 refine l_ rfl (L_load rfl (xb0 ty_53)) ?_
 refine x_call rfl rfl rfl rfl rfl ca_79 (c_spec_SortedRange c x hcb) ?_
 rintro r S ⟨rfl,rfl⟩
 refine xmv ?_
 refine p_ rfl (L_extract rfl rfl) ?_
 refine p_ rfl (L_extract rfl rfl) ?_
 refine x_alloc rfl rfl rfl rfl za_49 ?_
 refine EOps_go rfl rfl (EOp_store rfl rfl rfl (xb1 ty_49) ?_)
 refine xas ?_
 refine EOps_nil ?_
 refine E_seq ?_
 refine E_seq ?_
 refine e_tidy_A37_2 [0,2,3,4,5,6,7,8,21] ?_
 refine E_region' (L:=[0,1,2,3,4,5,6,7,8,9]) rfl ?_
 refine l_ rfl (L_load rfl (xb0 ty_49)) ?_
 refine l_ rfl (L_load rfl (xb0 ty_49)) ?_
 refine x_call rfl rfl rfl rfl rfl ca_37 (c_spec_EqualCrackers (srC c x) (srC c x)) ?_
 rintro r S ⟨rfl,rfl⟩
 refine p_ rfl (L_not rfl rfl) ?_
 refine xmv ?_
 refine EOps_split 43 (b:=_) rfl (fun hg43=>?_) (fun hg43=>?_)
 ·simp at hg43
 refine xmv ?_
 refine xmv ?_
 refine x_call rfl rfl rfl rfl rfl ca_38 (c_laws_sameInts (srL c x) (srL c x)) ?_
 rintro r S ⟨rfl,rfl⟩
 refine p_ rfl (L_not rfl rfl) ?_
 refine p_ rfl (L_pick rfl rfl) ?_
 refine EOps_nil ?_
 refine E_cond rfl (fun hc48=>?_) (fun hc48=>?_)
 ·simp at hc48
 refine E_skip ?_
 refine E_seq ?_
 refine E_seq ?_
 refine e_tidy_A37_2 [0,2,3,4,5,6,7,8,21,48] ?_
 refine E_region' (L:=[0,1,2,3,4,5]) rfl ?_
 refine l_ rfl (L_load rfl (xb0 ty_49)) ?_
 refine x_call rfl rfl rfl rfl rfl ca_39 (c_spec_IsCracker c) ?_
 rintro r S ⟨rfl,rfl⟩
 refine xmv ?_
 refine EOps_split 51 (b:=_) rfl (fun hg51=>?_) (fun hg51=>?_)
 ·refine l_ rfl (L_load rfl (xb3 ty_53)) ?_
  refine x_call rfl rfl rfl rfl rfl ca_41 (c_spec_IsRange x) ?_
  rintro r S ⟨rfl,rfl⟩
  refine p_ rfl (L_pick rfl rfl) ?_
  refine EOps_nil ?_
  refine E_cond rfl (fun hc54=>?_) (fun hc54=>?_)
  ·have hk : selK c x = true := by
    simp only [selK]
    simp_all
   have hcr2:isCrk c=true∧isRng x=true:=by simpa [selK] using hk
   obtain⟨s1,s2,s3,s4⟩:=sr_law hk
   have hl:=crk_lens hcr2.1
   refine E_seq ?_
   refine E_region' (L:=[0,1]) rfl ?_
   refine EOps_go rfl rfl (Heavy.op (H_bslice rfl rfl (by decide) sl_22 ty_3 za_3 ⟨rfl,by decide⟩ (by decide) rfl rfl rfl rfl ?_))
   refine xas ?_
   refine EOps_nil ?_
   refine E_seq ?_
   refine E_seq ?_
   refine E_region' (L:=[0]) rfl ?_
   refine xas ?_
   refine EOps_nil ?_
   refine E_block ?_
   refine e_for_A37_3 (α:=Nat) [0,2,3,4,5,6,7,8,21,48,54] (fun k=>[(10,.c (.sc (.int .i64 ((k:Int))))),(9,.c (.sl 15 0 (viN c x k).length (viN c x k).length))]) (fun k=>[_,_,_,_,_,_,_,_,_,_,_,_,_,_,_,.row 3 1 (ints (viN c x k))]) (fun k=>k≤c.vals.length) (fun k=>c.vals.length - k) (0) ?_ (rfl) ⟨.inr rfl,.inr rfl,trivial⟩ ?_
   ·simp
   rintro k hkl
   have hpl:=viN_len c x k
   refine E_seq ?_
   refine E_seq ?_
   refine E_region' (L:=[0,1,2,3,4]) rfl ?_
   refine xmv ?_
   refine p_ rfl (l_field rfl fo_49_0) ?_
   refine l_ rfl (L_load rfl (xb0 ty_22)) ?_
   refine p_ rfl (l_len rfl sl_22) ?_
   refine p_ rfl (L_bin rfl rfl rfl rfl) ?_
   refine EOps_nil ?_
   refine E_cond rfl (fun hc60=>?_) (fun hc60=>?_)
   ·have hk1 : k < c.vals.length := by simp [ints_len] at hc60; omega
    obtain⟨y,hy⟩:=at_lt (l:=c.vals) hk1
    have hst0:=viN_at (r:=x) hy
    refine E_skip ?_
    refine E_seq ?_
    refine E_block ?_
    refine E_seq ?_
    refine e_tidy_A37_2 [0,2,3,4,5,6,7,8,9,10,21,48,54,60,69] ?_
    refine E_drawT mixed ?_
    refine tl_ 0 rfl (L_load rfl (xb0 ty_53)) ?_
    refine tj_ 1 rfl (l_field rfl fo_49_0) ?_
    refine tl_ 2 rfl (L_load rfl (xb0 ty_22)) ?_
    refine tj_ 3 rfl (L_move rfl) ?_
    refine tj_ 4 rfl (L_index rfl rfl (xii sl_22 ty_3)) ?_
    refine tl_ 5 rfl (L_load rfl (xb0 ty_3)) ?_
    refine t_call 6 rfl rfl rfl rfl rfl ca_73 (c_spec_InRange x y) ?_
    rintro r S ⟨rfl,rfl⟩
    refine T_done (by kernel_rfl) ?_
    refine E_cond rfl (fun hc69=>?_) (fun hc69=>?_)
    ·have hst : viN c x (k + 1) = viN c x k ++ [y] := by rw [hst0, if_pos hc69]
     refine E_region' (L:=[0,1,2,3,4,5,6,7,8]) rfl ?_
     refine xmv ?_
     refine p_ rfl (l_field rfl fo_49_0) ?_
     refine l_ rfl (L_load rfl (xb0 ty_22)) ?_
     refine xmv ?_
     refine p_ rfl (L_index rfl rfl (xii sl_22 ty_3)) ?_
     refine l_ rfl (L_load rfl (xb0 ty_3)) ?_
     refine EOps_go rfl rfl (Heavy.op (H_bslice_ro rfl rfl (by decide) sl_22 ty_3 za_3 ⟨rfl,by decide⟩ (by decide) rfl rfl rfl rfl ?_))
     refine EOps_go rfl rfl (EOp_append (news:=ints [y]) rfl rfl (by decide) sl_22 ty_3 by_3 za_3 ⟨rfl,by decide⟩ rfl (by first|rfl|assumption) xb6 xb7 xb8 xb9 ?_)
     refine xas ?_
     refine EOps_nil ?_
     refine E_region' (L:=[0,1,2]) rfl ?_
     refine xmv ?_
     refine p_ rfl xb2 ?_
     refine xas ?_
     refine EOps_nil ?_
     refine⟨k+1,?_,?_,(by rw [hst];first|rfl|(rw [← ints_app];rfl)),⟨.inr rfl,.inr ((by rw [hst];first|rfl|(rw [← ints_lenApp];rfl))),trivial⟩,⟨.inr rfl,.inr rfl,.inr rfl,.inr rfl,.inr rfl,.inr rfl,.inr rfl,.inr rfl,.inr rfl,.inr rfl,.inr rfl,trivial⟩⟩
     ·first|omega|(dsimp only;omega)|(simp;omega)
     first|trivial|omega|(dsimp only;omega)|(simp;omega)
    have hst : viN c x (k + 1) = viN c x k := by rw [hst0, if_neg (by simp [hc69])]
    refine E_skip ?_
    refine E_region' (L:=[0,1,2]) rfl ?_
    refine xmv ?_
    refine p_ rfl xb2 ?_
    refine xas ?_
    refine EOps_nil ?_
    refine⟨k+1,?_,?_,(by rw [hst];first|rfl|(rw [← ints_app];rfl)),⟨.inr rfl,.inr ((by rw [hst];first|rfl|(rw [← ints_lenApp];rfl))),trivial⟩,⟨.inr rfl,.inr rfl,.inr rfl,.inr rfl,.inr rfl,.inr rfl,.inr rfl,.inr rfl,.inr rfl,.inr rfl,.inr rfl,trivial⟩⟩
    ·first|omega|(dsimp only;omega)|(simp;omega)
    first|trivial|omega|(dsimp only;omega)|(simp;omega)
   have hke : k = c.vals.length := by simp [ints_len] at hc60; omega
   subst hke
   refine E_exit ?_
   refine E_seq ?_
   refine e_tidy_A37_2 [0,2,3,4,5,6,7,8,9,10,21,48,54,60,69] ?_
   refine E_drawT mixed ?_
   refine tj_ 0 rfl (L_move rfl) ?_
   refine tj_ 1 rfl (L_move rfl) ?_
   refine t_call 2 rfl rfl rfl rfl rfl ca_80 (c_spec_SortInts (viN c x c.vals.length) (by omega)) ?_
   rintro r S ⟨rfl,rfl⟩
   refine t_call 3 rfl rfl rfl rfl rfl ca_38 (c_laws_sameInts (srL c x) (sortI (viN c x c.vals.length))) ?_
   rintro r S ⟨rfl,rfl⟩
   refine tj_ 4 rfl (L_not rfl rfl) ?_
   refine tj_ 5 rfl (L_move rfl) ?_
   refine T_split 83 (b:=_) rfl rfl (fun hg83=>?_) (fun hg83=>?_)
   ·simp [s2] at hg83
   refine tl_ 6 rfl (L_load rfl (xb3 ty_49)) ?_
   refine t_call 7 rfl rfl rfl rfl rfl ca_46 (c_impl_IsCracker (srC c x)) ?_
   rintro r S ⟨rfl,rfl⟩
   refine tj_ 8 rfl (L_not rfl rfl) ?_
   refine tj_ 9 rfl (L_pick rfl rfl) ?_
   refine tj_ 10 rfl (L_move rfl) ?_
   refine T_split 88 (b:=_) rfl rfl (fun hg88=>?_) (fun hg88=>?_)
   ·simp [s1] at hg88
   refine tl_ 11 rfl (L_load rfl (xb3 ty_49)) ?_
   refine tl_ 13 rfl (L_load rfl (xb0 ty_49)) ?_
   refine t_fresh 10 [(⟨none,12,90,0⟩,_),(⟨none,14,92,0⟩,_)] [(90,.any),(92,.any)] [12,14] ⟨.one rfl rfl rfl (by decide) (f_call rfl rfl ca_48 (c_laws_pairsOf (srC c x) s1)),.one rfl rfl rfl (by decide) (f_call rfl rfl ca_48 (c_laws_pairsOf c hcr2.1)),trivial⟩ ?_
   refine fk_cons ?_
   rintro r S ⟨rfl,rfl⟩
   refine fk_cons ?_
   rintro r S ⟨rfl,rfl⟩
   refine fk_nil ?_
   refine t_call 15 rfl rfl rfl rfl rfl ca_38 (c_laws_sameInts (prL (srC c x)) (prL c)) ?_
   rintro r S ⟨rfl,rfl⟩
   refine tj_ 16 rfl (L_not rfl rfl) ?_
   refine tj_ 17 rfl (L_pick rfl rfl) ?_
   refine tj_ 18 rfl (L_move rfl) ?_
   refine T_split 96 (b:=_) rfl rfl (fun hg96=>?_) (fun hg96=>?_)
   ·simp [s3] at hg96
   refine tl_ 19 rfl (L_load rfl (xb3 ty_49)) ?_
   refine tj_ 21 rfl (L_move rfl) ?_
   refine tj_ 22 rfl (l_len rfl sl_22) ?_
   refine t_call 20 rfl rfl rfl rfl rfl ca_81 (c_impl_SortedPart (srC c x)) ?_
   rintro r S ⟨rfl,rfl⟩
   refine tj_ 23 rfl (L_bin rfl rfl rfl rfl) ?_
   refine tj_ 24 rfl (L_pick rfl rfl) ?_
   refine T_done (by kernel_rfl) ?_
   refine E_cond rfl (fun hc102=>?_) (fun hc102=>?_)
   ·exfalso;simp at hc102;omega
   refine E_skip ?_
   refine E_seq ?_
   refine e_tidy_A37_2 [0,2,3,4,5,6,7,8,9,10,21,48,54,60,69,102] ?_
   refine E_region' (L:=[0,1,2,3,4,5,6,7]) rfl ?_
   refine xmv ?_
   refine x_call rfl rfl rfl rfl rfl ca_82 (c_spec_DrawSortSmall l hb) ?_ (hq:=by rintro r S ⟨_,_,⟨rfl,rfl⟩,_,_,_⟩;exact⟨rfl,rfl⟩)
   rintro r S ⟨d,lim,⟨rfl,rfl⟩,hdv,hdr,hdp⟩
   have hdb:d.vals.length≤1048576∧d.rows.length≤1048576∧d.piv.length≤1048576:=by omega
   refine xmv ?_
   refine p_ rfl (L_extract rfl rfl) ?_
   refine p_ rfl (L_extract rfl rfl) ?_
   refine x_alloc rfl rfl rfl rfl za_49 ?_
   refine EOps_go rfl rfl (EOp_store rfl rfl rfl (xb1 ty_49) ?_)
   refine xas ?_
   refine EOps_nil ?_
   refine E_seq ?_
   refine e_tidy_A37_2 [0,2,3,4,5,6,7,8,9,10,11,12,21,48,54,60,69,102] ?_
   refine E_region' (L:=[0,1,2,3,4]) rfl ?_
   refine l_ rfl (L_load rfl (xb0 ty_49)) ?_
   refine xmv ?_
   refine x_call rfl rfl rfl rfl rfl ca_83 (c_impl_SortSmall d lim hdb) ?_
   rintro r S ⟨rfl,rfl⟩
   refine x_alloc rfl rfl rfl rfl za_49 ?_
   refine EOps_go rfl rfl (EOp_store rfl rfl rfl (xb1 ty_49) ?_)
   refine EOps_nil ?_
   refine E_seq ?_
   refine e_tidy_A37_2 [0,2,3,4,5,6,7,8,9,10,11,12,13,21,48,54,60,69,102] ?_
   refine E_region' (L:=[0,1,2,3,4,5,6,7]) rfl ?_
   refine xmv ?_
   refine x_call rfl rfl rfl rfl rfl ca_84 (c_spec_DrawSortPiece l hb) ?_ (hq:=by rintro r S ⟨_,_,⟨rfl,rfl⟩,_,_,_⟩;exact⟨rfl,rfl⟩)
   rintro r S ⟨g,v,⟨rfl,rfl⟩,hgv,hgr,hgp⟩
   have hgb:g.vals.length≤1048576∧g.rows.length≤1048576∧g.piv.length≤1048576:=by omega
   refine xmv ?_
   refine p_ rfl (L_extract rfl rfl) ?_
   refine p_ rfl (L_extract rfl rfl) ?_
   refine x_alloc rfl rfl rfl rfl za_49 ?_
   refine EOps_go rfl rfl (EOp_store rfl rfl rfl (xb1 ty_49) ?_)
   refine xas ?_
   refine EOps_nil ?_
   refine E_seq ?_
   refine e_tidy_A37_2 [0,2,3,4,5,6,7,8,9,10,11,12,13,14,15,21,48,54,60,69,102] ?_
   refine E_region' (L:=[0,1,2,3,4,5,6,7,8]) rfl ?_
   refine l_ rfl (L_load rfl (xb0 ty_49)) ?_
   refine xmv ?_
   refine x_call rfl rfl rfl rfl rfl ca_85 (c_impl_SortPiece g v hgb) ?_
   rintro r S ⟨rfl,rfl⟩
   refine xmv ?_
   refine p_ rfl (L_extract rfl rfl) ?_
   refine p_ rfl (L_extract rfl rfl) ?_
   refine x_alloc rfl rfl rfl rfl za_49 ?_
   refine EOps_go rfl rfl (EOp_store rfl rfl rfl (xb1 ty_49) ?_)
   refine xas ?_
   refine EOps_nil ?_
   refine E_seq ?_
   refine e_tidy_A37_2 [0,2,3,4,5,6,7,8,9,10,11,12,13,14,15,16,17,21,48,54,60,69,102] ?_
   refine E_region' (L:=[0,1,2,3,4,5,6,7,8]) rfl ?_
   refine l_ rfl (L_load rfl (xb0 ty_49)) ?_
   refine xmv ?_
   refine x_call rfl rfl rfl rfl rfl ca_86 (c_spec_SortPiece g v hgb) ?_
   rintro r S ⟨rfl,rfl⟩
   refine xmv ?_
   refine p_ rfl (L_extract rfl rfl) ?_
   refine p_ rfl (L_extract rfl rfl) ?_
   refine x_alloc rfl rfl rfl rfl za_49 ?_
   refine EOps_go rfl rfl (EOp_store rfl rfl rfl (xb1 ty_49) ?_)
   refine xas ?_
   refine EOps_nil ?_
   refine E_seq ?_
   refine E_seq ?_
   refine e_tidy_A37_2 [0,2,3,4,5,6,7,8,9,10,11,12,13,14,15,16,17,18,19,21,48,54,60,69,102] ?_
   refine E_drawT mixed ?_
   refine tl_ 0 rfl (L_load rfl (xb0 ty_49)) ?_
   refine tl_ 1 rfl (L_load rfl (xb0 ty_49)) ?_
   refine tj_ 2 rfl (L_move rfl) ?_
   refine t_call 3 rfl rfl rfl rfl rfl ca_87 (c_spec_SortSmall d lim hdb) ?_
   rintro r S ⟨rfl,rfl⟩
   refine t_call 4 rfl rfl rfl rfl rfl ca_37 (c_spec_EqualCrackers (smC d lim) (smC d lim)) ?_
   rintro r S ⟨rfl,rfl⟩
   refine tj_ 5 rfl (L_not rfl rfl) ?_
   refine tj_ 6 rfl (L_move rfl) ?_
   refine T_split 134 (b:=_) rfl rfl (fun hg134=>?_) (fun hg134=>?_)
   ·simp at hg134
   refine tj_ 7 rfl (L_move rfl) ?_
   refine tj_ 8 rfl (L_move rfl) ?_
   refine tj_ 9 rfl (L_binB rfl bo_4 rfl rfl rfl) ?_
   refine tj_ 10 rfl (L_pick rfl rfl) ?_
   refine tj_ 11 rfl (L_move rfl) ?_
   refine T_split 139 (b:=_) rfl rfl (fun hg139=>?_) (fun hg139=>?_)
   ·simp at hg139
   refine tl_ 12 rfl (L_load rfl (xb3 ty_49)) ?_
   refine tl_ 13 rfl (L_load rfl (xb0 ty_49)) ?_
   refine t_call 14 rfl rfl rfl rfl rfl ca_37 (c_spec_EqualCrackers (spC g v) (spC g v)) ?_
   rintro r S ⟨rfl,rfl⟩
   refine tj_ 15 rfl (L_not rfl rfl) ?_
   refine tj_ 16 rfl (L_pick rfl rfl) ?_
   refine T_done (by kernel_rfl) ?_
   refine E_cond rfl (fun hc144=>?_) (fun hc144=>?_)
   ·simp at hc144
   refine E_skip ?_
   refine E_seq ?_
   refine e_tidy_A37_2 [0,2,3,4,5,6,7,8,9,10,11,12,13,14,15,16,17,18,19,21,48,54,60,69,102,144] ?_
   refine E_drawT mixed ?_
   refine tj_ 0 rfl (L_move rfl) ?_
   refine tj_ 1 rfl (L_not rfl rfl) ?_
   refine tj_ 2 rfl (L_move rfl) ?_
   refine T_split 147 (b:=_) rfl rfl (fun hg147=>?_) (fun hg147=>?_)
   ·refine tk_ 3 rfl ?_
    refine tk_ 4 rfl ?_
    refine tk_ 5 rfl ?_
    refine tk_ 6 rfl ?_
    refine tk_ 7 rfl ?_
    refine tk_ 8 rfl ?_
    refine tk_ 9 rfl ?_
    refine tk_ 10 rfl ?_
    refine tk_ 11 rfl ?_
    refine tk_ 12 rfl ?_
    refine tk_ 13 rfl ?_
    refine tk_ 14 rfl ?_
    refine tk_ 15 rfl ?_
    refine tk_ 16 rfl ?_
    refine tj_ 17 rfl (L_pick rfl rfl) ?_
    refine tj_ 18 rfl (L_move rfl) ?_
    refine tl_ 19 rfl (L_load rfl (xb0 ty_49)) ?_
    refine t_call 20 rfl rfl rfl rfl rfl ca_39 (c_spec_IsCracker d) ?_
    rintro r S ⟨rfl,rfl⟩
    refine tj_ 21 rfl (L_not rfl rfl) ?_
    refine tj_ 22 rfl (L_move rfl) ?_
    refine T_split 167 (b:=_) rfl rfl (fun hg167=>?_) (fun hg167=>?_)
    ·refine tk_ 23 rfl ?_
     refine tk_ 24 rfl ?_
     refine tk_ 25 rfl ?_
     refine tk_ 26 rfl ?_
     refine tk_ 27 rfl ?_
     refine tk_ 28 rfl ?_
     refine tk_ 29 rfl ?_
     refine tk_ 30 rfl ?_
     refine tk_ 31 rfl ?_
     refine tj_ 32 rfl (L_pick rfl rfl) ?_
     refine tj_ 33 rfl (L_pick rfl rfl) ?_
     refine tj_ 34 rfl (L_assign rfl) ?_
     refine T_done (by kernel_rfl) ?_
     refine E_ret ?_
     refine⟨_,[],rfl,rfl,bool_eq ?_,rfl⟩
     first
      | (simp;done)
      | (simp_all;done)
      | (simp [m2];done)
      | (simp;omega)
    have hdc : isCrk d = true := by simpa using hg167
    obtain⟨m1,m2⟩:=sm_ok (lim:=lim) hdc
    refine tl_ 23 rfl (L_load rfl (xb0 ty_49)) ?_
    refine t_call 24 rfl rfl rfl rfl rfl ca_46 (c_impl_IsCracker (smC d lim)) ?_
    rintro r S ⟨rfl,rfl⟩
    refine tj_ 25 rfl (L_move rfl) ?_
    refine T_split 170 (b:=_) rfl rfl (fun hg170=>?_) (fun hg170=>?_)
    ·refine tl_ 26 rfl (L_load rfl (xb3 ty_49)) ?_
     refine tl_ 28 rfl (L_load rfl (xb0 ty_49)) ?_
     refine t_fresh 5 [(⟨none,27,172,0⟩,_),(⟨none,29,174,0⟩,_)] [(172,.any),(174,.any)] [27,29] ⟨.one rfl rfl rfl (by decide) (f_call rfl rfl ca_81 (c_impl_SortedPart (smC d lim))),.one rfl rfl rfl (by decide) (f_call rfl rfl ca_81 (c_impl_SortedPart d)),trivial⟩ ?_
     refine fk_cons ?_
     rintro r S ⟨rfl,rfl⟩
     refine fk_cons ?_
     rintro r S ⟨rfl,rfl⟩
     refine fk_nil ?_
     refine tp_ 30 rfl (L_bin rfl rfl rfl rfl) ?_
     refine tj_ 31 rfl (L_pick rfl rfl) ?_
     refine tj_ 32 rfl (L_pick rfl rfl) ?_
     refine tj_ 33 rfl (L_pick rfl rfl) ?_
     refine tj_ 34 rfl (L_assign rfl) ?_
     refine T_done (by kernel_rfl) ?_
     refine E_ret ?_
     refine⟨_,[],rfl,rfl,bool_eq ?_,rfl⟩
     first
      | (simp;done)
      | (simp_all;done)
      | (simp [m2];done)
      | (simp;omega)
    simp [m1] at hg170
   have hk2 : spK g v = true := by simpa using hg147
   obtain⟨p1,p2,p3⟩:=sp_ok hk2
   have hgc:isCrk g=true∧isIn v (-999) 999=true:=by simpa [spK] using hk2
   have p4:prL (spC g v)=prL g:=prL_of (crk_lens p1).2.1 (crk_lens hgc.1).2.1 p2
   refine tl_ 3 rfl (L_load rfl (xb0 ty_49)) ?_
   refine tj_ 4 rfl (L_move rfl) ?_
   refine t_call 5 rfl rfl rfl rfl rfl ca_88 (c_impl_IsSortedPiece (spC g v) v) ?_
   rintro r S ⟨rfl,rfl⟩
   refine tj_ 6 rfl (L_move rfl) ?_
   refine T_split 151 (b:=_) rfl rfl (fun hg151=>?_) (fun hg151=>?_)
   ·refine tl_ 7 rfl (L_load rfl (xb3 ty_49)) ?_
    refine t_call 8 rfl rfl rfl rfl rfl ca_46 (c_impl_IsCracker (spC g v)) ?_
    rintro r S ⟨rfl,rfl⟩
    refine tj_ 9 rfl (L_pick rfl rfl) ?_
    refine tj_ 10 rfl (L_move rfl) ?_
    refine T_split 155 (b:=_) rfl rfl (fun hg155=>?_) (fun hg155=>?_)
    ·refine tl_ 11 rfl (L_load rfl (xb3 ty_49)) ?_
     refine tl_ 13 rfl (L_load rfl (xb0 ty_49)) ?_
     refine t_fresh 20 [(⟨none,12,157,0⟩,_),(⟨none,14,159,0⟩,_)] [(157,.any),(159,.any)] [12,14] ⟨.one rfl rfl rfl (by decide) (f_call rfl rfl ca_48 (c_laws_pairsOf (spC g v) p1)),.one rfl rfl rfl (by decide) (f_call rfl rfl ca_48 (c_laws_pairsOf g hgc.1)),trivial⟩ ?_
     refine fk_cons ?_
     rintro r S ⟨rfl,rfl⟩
     refine fk_cons ?_
     rintro r S ⟨rfl,rfl⟩
     refine fk_nil ?_
     refine t_call 15 rfl rfl rfl rfl rfl ca_38 (c_laws_sameInts (prL (spC g v)) (prL g)) ?_
     rintro r S ⟨rfl,rfl⟩
     refine tj_ 16 rfl (L_pick rfl rfl) ?_
     refine tj_ 17 rfl (L_pick rfl rfl) ?_
     refine tj_ 18 rfl (L_move rfl) ?_
     refine T_split 163 (b:=_) rfl rfl (fun hg163=>?_) (fun hg163=>?_)
     ·refine tl_ 19 rfl (L_load rfl (xb3 ty_49)) ?_
      refine t_call 20 rfl rfl rfl rfl rfl ca_39 (c_spec_IsCracker d) ?_
      rintro r S ⟨rfl,rfl⟩
      refine tj_ 21 rfl (L_not rfl rfl) ?_
      refine tj_ 22 rfl (L_move rfl) ?_
      refine T_split 167 (b:=_) rfl rfl (fun hg167=>?_) (fun hg167=>?_)
      ·refine tk_ 23 rfl ?_
       refine tk_ 24 rfl ?_
       refine tk_ 25 rfl ?_
       refine tk_ 26 rfl ?_
       refine tk_ 27 rfl ?_
       refine tk_ 28 rfl ?_
       refine tk_ 29 rfl ?_
       refine tk_ 30 rfl ?_
       refine tk_ 31 rfl ?_
       refine tj_ 32 rfl (L_pick rfl rfl) ?_
       refine tj_ 33 rfl (L_pick rfl rfl) ?_
       refine tj_ 34 rfl (L_assign rfl) ?_
       refine T_done (by kernel_rfl) ?_
       refine E_ret ?_
       refine⟨_,[],rfl,rfl,bool_eq ?_,rfl⟩
       first
        | (simp;done)
        | (simp_all;done)
        | (simp [m2];done)
        | (simp;omega)
      have hdc : isCrk d = true := by simpa using hg167
      obtain⟨m1,m2⟩:=sm_ok (lim:=lim) hdc
      refine tl_ 23 rfl (L_load rfl (xb0 ty_49)) ?_
      refine t_call 24 rfl rfl rfl rfl rfl ca_46 (c_impl_IsCracker (smC d lim)) ?_
      rintro r S ⟨rfl,rfl⟩
      refine tj_ 25 rfl (L_move rfl) ?_
      refine T_split 170 (b:=_) rfl rfl (fun hg170=>?_) (fun hg170=>?_)
      ·refine tl_ 26 rfl (L_load rfl (xb3 ty_49)) ?_
       refine tl_ 28 rfl (L_load rfl (xb0 ty_49)) ?_
       refine t_fresh 5 [(⟨none,27,172,0⟩,_),(⟨none,29,174,0⟩,_)] [(172,.any),(174,.any)] [27,29] ⟨.one rfl rfl rfl (by decide) (f_call rfl rfl ca_81 (c_impl_SortedPart (smC d lim))),.one rfl rfl rfl (by decide) (f_call rfl rfl ca_81 (c_impl_SortedPart d)),trivial⟩ ?_
       refine fk_cons ?_
       rintro r S ⟨rfl,rfl⟩
       refine fk_cons ?_
       rintro r S ⟨rfl,rfl⟩
       refine fk_nil ?_
       refine tp_ 30 rfl (L_bin rfl rfl rfl rfl) ?_
       refine tj_ 31 rfl (L_pick rfl rfl) ?_
       refine tj_ 32 rfl (L_pick rfl rfl) ?_
       refine tj_ 33 rfl (L_pick rfl rfl) ?_
       refine tj_ 34 rfl (L_assign rfl) ?_
       refine T_done (by kernel_rfl) ?_
       refine E_ret ?_
       refine⟨_,[],rfl,rfl,bool_eq ?_,rfl⟩
       first
        | (simp;done)
        | (simp_all;done)
        | (simp [m2];done)
        | (simp;omega)
      simp [m1] at hg170
     simp [p4] at hg163
    simp [p1] at hg155
   exfalso;rw [Bool.and_assoc,p1,Bool.true_and,p3] at hg151;exact Bool.noConfusion hg151
  refine E_skip ?_
  refine E_seq ?_
  refine e_tidy_A37_2 [0,2,3,4,5,6,7,8,21,48,54] ?_
  refine E_region' (L:=[0,1,2,3,4,5,6,7]) rfl ?_
  refine xmv ?_
  refine x_call rfl rfl rfl rfl rfl ca_82 (c_spec_DrawSortSmall l hb) ?_ (hq:=by rintro r S ⟨_,_,⟨rfl,rfl⟩,_,_,_⟩;exact⟨rfl,rfl⟩)
  rintro r S ⟨d,lim,⟨rfl,rfl⟩,hdv,hdr,hdp⟩
  have hdb:d.vals.length≤1048576∧d.rows.length≤1048576∧d.piv.length≤1048576:=by omega
  refine xmv ?_
  refine p_ rfl (L_extract rfl rfl) ?_
  refine p_ rfl (L_extract rfl rfl) ?_
  refine x_alloc rfl rfl rfl rfl za_49 ?_
  refine EOps_go rfl rfl (EOp_store rfl rfl rfl (xb1 ty_49) ?_)
  refine xas ?_
  refine EOps_nil ?_
  refine E_seq ?_
  refine e_tidy_A37_2 [0,2,3,4,5,6,7,8,11,12,21,48,54] ?_
  refine E_region' (L:=[0,1,2,3,4]) rfl ?_
  refine l_ rfl (L_load rfl (xb0 ty_49)) ?_
  refine xmv ?_
  refine x_call rfl rfl rfl rfl rfl ca_83 (c_impl_SortSmall d lim hdb) ?_
  rintro r S ⟨rfl,rfl⟩
  refine x_alloc rfl rfl rfl rfl za_49 ?_
  refine EOps_go rfl rfl (EOp_store rfl rfl rfl (xb1 ty_49) ?_)
  refine EOps_nil ?_
  refine E_seq ?_
  refine e_tidy_A37_2 [0,2,3,4,5,6,7,8,11,12,13,21,48,54] ?_
  refine E_region' (L:=[0,1,2,3,4,5,6,7]) rfl ?_
  refine xmv ?_
  refine x_call rfl rfl rfl rfl rfl ca_84 (c_spec_DrawSortPiece l hb) ?_ (hq:=by rintro r S ⟨_,_,⟨rfl,rfl⟩,_,_,_⟩;exact⟨rfl,rfl⟩)
  rintro r S ⟨g,v,⟨rfl,rfl⟩,hgv,hgr,hgp⟩
  have hgb:g.vals.length≤1048576∧g.rows.length≤1048576∧g.piv.length≤1048576:=by omega
  refine xmv ?_
  refine p_ rfl (L_extract rfl rfl) ?_
  refine p_ rfl (L_extract rfl rfl) ?_
  refine x_alloc rfl rfl rfl rfl za_49 ?_
  refine EOps_go rfl rfl (EOp_store rfl rfl rfl (xb1 ty_49) ?_)
  refine xas ?_
  refine EOps_nil ?_
  refine E_seq ?_
  refine e_tidy_A37_2 [0,2,3,4,5,6,7,8,11,12,13,14,15,21,48,54] ?_
  refine E_region' (L:=[0,1,2,3,4,5,6,7,8]) rfl ?_
  refine l_ rfl (L_load rfl (xb0 ty_49)) ?_
  refine xmv ?_
  refine x_call rfl rfl rfl rfl rfl ca_85 (c_impl_SortPiece g v hgb) ?_
  rintro r S ⟨rfl,rfl⟩
  refine xmv ?_
  refine p_ rfl (L_extract rfl rfl) ?_
  refine p_ rfl (L_extract rfl rfl) ?_
  refine x_alloc rfl rfl rfl rfl za_49 ?_
  refine EOps_go rfl rfl (EOp_store rfl rfl rfl (xb1 ty_49) ?_)
  refine xas ?_
  refine EOps_nil ?_
  refine E_seq ?_
  refine e_tidy_A37_2 [0,2,3,4,5,6,7,8,11,12,13,14,15,16,17,21,48,54] ?_
  refine E_region' (L:=[0,1,2,3,4,5,6,7,8]) rfl ?_
  refine l_ rfl (L_load rfl (xb0 ty_49)) ?_
  refine xmv ?_
  refine x_call rfl rfl rfl rfl rfl ca_86 (c_spec_SortPiece g v hgb) ?_
  rintro r S ⟨rfl,rfl⟩
  refine xmv ?_
  refine p_ rfl (L_extract rfl rfl) ?_
  refine p_ rfl (L_extract rfl rfl) ?_
  refine x_alloc rfl rfl rfl rfl za_49 ?_
  refine EOps_go rfl rfl (EOp_store rfl rfl rfl (xb1 ty_49) ?_)
  refine xas ?_
  refine EOps_nil ?_
  refine E_seq ?_
  refine E_seq ?_
  refine e_tidy_A37_2 [0,2,3,4,5,6,7,8,11,12,13,14,15,16,17,18,19,21,48,54] ?_
  refine E_drawT mixed ?_
  refine tl_ 0 rfl (L_load rfl (xb0 ty_49)) ?_
  refine tl_ 1 rfl (L_load rfl (xb0 ty_49)) ?_
  refine tj_ 2 rfl (L_move rfl) ?_
  refine t_call 3 rfl rfl rfl rfl rfl ca_87 (c_spec_SortSmall d lim hdb) ?_
  rintro r S ⟨rfl,rfl⟩
  refine t_call 4 rfl rfl rfl rfl rfl ca_37 (c_spec_EqualCrackers (smC d lim) (smC d lim)) ?_
  rintro r S ⟨rfl,rfl⟩
  refine tj_ 5 rfl (L_not rfl rfl) ?_
  refine tj_ 6 rfl (L_move rfl) ?_
  refine T_split 134 (b:=_) rfl rfl (fun hg134=>?_) (fun hg134=>?_)
  ·simp at hg134
  refine tj_ 7 rfl (L_move rfl) ?_
  refine tj_ 8 rfl (L_move rfl) ?_
  refine tj_ 9 rfl (L_binB rfl bo_4 rfl rfl rfl) ?_
  refine tj_ 10 rfl (L_pick rfl rfl) ?_
  refine tj_ 11 rfl (L_move rfl) ?_
  refine T_split 139 (b:=_) rfl rfl (fun hg139=>?_) (fun hg139=>?_)
  ·simp at hg139
  refine tl_ 12 rfl (L_load rfl (xb3 ty_49)) ?_
  refine tl_ 13 rfl (L_load rfl (xb0 ty_49)) ?_
  refine t_call 14 rfl rfl rfl rfl rfl ca_37 (c_spec_EqualCrackers (spC g v) (spC g v)) ?_
  rintro r S ⟨rfl,rfl⟩
  refine tj_ 15 rfl (L_not rfl rfl) ?_
  refine tj_ 16 rfl (L_pick rfl rfl) ?_
  refine T_done (by kernel_rfl) ?_
  refine E_cond rfl (fun hc144=>?_) (fun hc144=>?_)
  ·simp at hc144
  refine E_skip ?_
  refine E_seq ?_
  refine e_tidy_A37_2 [0,2,3,4,5,6,7,8,11,12,13,14,15,16,17,18,19,21,48,54,144] ?_
  refine E_drawT mixed ?_
  refine tj_ 0 rfl (L_move rfl) ?_
  refine tj_ 1 rfl (L_not rfl rfl) ?_
  refine tj_ 2 rfl (L_move rfl) ?_
  refine T_split 147 (b:=_) rfl rfl (fun hg147=>?_) (fun hg147=>?_)
  ·refine tk_ 3 rfl ?_
   refine tk_ 4 rfl ?_
   refine tk_ 5 rfl ?_
   refine tk_ 6 rfl ?_
   refine tk_ 7 rfl ?_
   refine tk_ 8 rfl ?_
   refine tk_ 9 rfl ?_
   refine tk_ 10 rfl ?_
   refine tk_ 11 rfl ?_
   refine tk_ 12 rfl ?_
   refine tk_ 13 rfl ?_
   refine tk_ 14 rfl ?_
   refine tk_ 15 rfl ?_
   refine tk_ 16 rfl ?_
   refine tj_ 17 rfl (L_pick rfl rfl) ?_
   refine tj_ 18 rfl (L_move rfl) ?_
   refine tl_ 19 rfl (L_load rfl (xb0 ty_49)) ?_
   refine t_call 20 rfl rfl rfl rfl rfl ca_39 (c_spec_IsCracker d) ?_
   rintro r S ⟨rfl,rfl⟩
   refine tj_ 21 rfl (L_not rfl rfl) ?_
   refine tj_ 22 rfl (L_move rfl) ?_
   refine T_split 167 (b:=_) rfl rfl (fun hg167=>?_) (fun hg167=>?_)
   ·refine tk_ 23 rfl ?_
    refine tk_ 24 rfl ?_
    refine tk_ 25 rfl ?_
    refine tk_ 26 rfl ?_
    refine tk_ 27 rfl ?_
    refine tk_ 28 rfl ?_
    refine tk_ 29 rfl ?_
    refine tk_ 30 rfl ?_
    refine tk_ 31 rfl ?_
    refine tj_ 32 rfl (L_pick rfl rfl) ?_
    refine tj_ 33 rfl (L_pick rfl rfl) ?_
    refine tj_ 34 rfl (L_assign rfl) ?_
    refine T_done (by kernel_rfl) ?_
    refine E_ret ?_
    refine⟨_,[],rfl,rfl,bool_eq ?_,rfl⟩
    first
     | (simp;done)
     | (simp_all;done)
     | (simp [m2];done)
     | (simp;omega)
   have hdc : isCrk d = true := by simpa using hg167
   obtain⟨m1,m2⟩:=sm_ok (lim:=lim) hdc
   refine tl_ 23 rfl (L_load rfl (xb0 ty_49)) ?_
   refine t_call 24 rfl rfl rfl rfl rfl ca_46 (c_impl_IsCracker (smC d lim)) ?_
   rintro r S ⟨rfl,rfl⟩
   refine tj_ 25 rfl (L_move rfl) ?_
   refine T_split 170 (b:=_) rfl rfl (fun hg170=>?_) (fun hg170=>?_)
   ·refine tl_ 26 rfl (L_load rfl (xb3 ty_49)) ?_
    refine tl_ 28 rfl (L_load rfl (xb0 ty_49)) ?_
    refine t_fresh 5 [(⟨none,27,172,0⟩,_),(⟨none,29,174,0⟩,_)] [(172,.any),(174,.any)] [27,29] ⟨.one rfl rfl rfl (by decide) (f_call rfl rfl ca_81 (c_impl_SortedPart (smC d lim))),.one rfl rfl rfl (by decide) (f_call rfl rfl ca_81 (c_impl_SortedPart d)),trivial⟩ ?_
    refine fk_cons ?_
    rintro r S ⟨rfl,rfl⟩
    refine fk_cons ?_
    rintro r S ⟨rfl,rfl⟩
    refine fk_nil ?_
    refine tp_ 30 rfl (L_bin rfl rfl rfl rfl) ?_
    refine tj_ 31 rfl (L_pick rfl rfl) ?_
    refine tj_ 32 rfl (L_pick rfl rfl) ?_
    refine tj_ 33 rfl (L_pick rfl rfl) ?_
    refine tj_ 34 rfl (L_assign rfl) ?_
    refine T_done (by kernel_rfl) ?_
    refine E_ret ?_
    refine⟨_,[],rfl,rfl,bool_eq ?_,rfl⟩
    first
     | (simp;done)
     | (simp_all;done)
     | (simp [m2];done)
     | (simp;omega)
   simp [m1] at hg170
  have hk2 : spK g v = true := by simpa using hg147
  obtain⟨p1,p2,p3⟩:=sp_ok hk2
  have hgc:isCrk g=true∧isIn v (-999) 999=true:=by simpa [spK] using hk2
  have p4:prL (spC g v)=prL g:=prL_of (crk_lens p1).2.1 (crk_lens hgc.1).2.1 p2
  refine tl_ 3 rfl (L_load rfl (xb0 ty_49)) ?_
  refine tj_ 4 rfl (L_move rfl) ?_
  refine t_call 5 rfl rfl rfl rfl rfl ca_88 (c_impl_IsSortedPiece (spC g v) v) ?_
  rintro r S ⟨rfl,rfl⟩
  refine tj_ 6 rfl (L_move rfl) ?_
  refine T_split 151 (b:=_) rfl rfl (fun hg151=>?_) (fun hg151=>?_)
  ·refine tl_ 7 rfl (L_load rfl (xb3 ty_49)) ?_
   refine t_call 8 rfl rfl rfl rfl rfl ca_46 (c_impl_IsCracker (spC g v)) ?_
   rintro r S ⟨rfl,rfl⟩
   refine tj_ 9 rfl (L_pick rfl rfl) ?_
   refine tj_ 10 rfl (L_move rfl) ?_
   refine T_split 155 (b:=_) rfl rfl (fun hg155=>?_) (fun hg155=>?_)
   ·refine tl_ 11 rfl (L_load rfl (xb3 ty_49)) ?_
    refine tl_ 13 rfl (L_load rfl (xb0 ty_49)) ?_
    refine t_fresh 20 [(⟨none,12,157,0⟩,_),(⟨none,14,159,0⟩,_)] [(157,.any),(159,.any)] [12,14] ⟨.one rfl rfl rfl (by decide) (f_call rfl rfl ca_48 (c_laws_pairsOf (spC g v) p1)),.one rfl rfl rfl (by decide) (f_call rfl rfl ca_48 (c_laws_pairsOf g hgc.1)),trivial⟩ ?_
    refine fk_cons ?_
    rintro r S ⟨rfl,rfl⟩
    refine fk_cons ?_
    rintro r S ⟨rfl,rfl⟩
    refine fk_nil ?_
    refine t_call 15 rfl rfl rfl rfl rfl ca_38 (c_laws_sameInts (prL (spC g v)) (prL g)) ?_
    rintro r S ⟨rfl,rfl⟩
    refine tj_ 16 rfl (L_pick rfl rfl) ?_
    refine tj_ 17 rfl (L_pick rfl rfl) ?_
    refine tj_ 18 rfl (L_move rfl) ?_
    refine T_split 163 (b:=_) rfl rfl (fun hg163=>?_) (fun hg163=>?_)
    ·refine tl_ 19 rfl (L_load rfl (xb3 ty_49)) ?_
     refine t_call 20 rfl rfl rfl rfl rfl ca_39 (c_spec_IsCracker d) ?_
     rintro r S ⟨rfl,rfl⟩
     refine tj_ 21 rfl (L_not rfl rfl) ?_
     refine tj_ 22 rfl (L_move rfl) ?_
     refine T_split 167 (b:=_) rfl rfl (fun hg167=>?_) (fun hg167=>?_)
     ·refine tk_ 23 rfl ?_
      refine tk_ 24 rfl ?_
      refine tk_ 25 rfl ?_
      refine tk_ 26 rfl ?_
      refine tk_ 27 rfl ?_
      refine tk_ 28 rfl ?_
      refine tk_ 29 rfl ?_
      refine tk_ 30 rfl ?_
      refine tk_ 31 rfl ?_
      refine tj_ 32 rfl (L_pick rfl rfl) ?_
      refine tj_ 33 rfl (L_pick rfl rfl) ?_
      refine tj_ 34 rfl (L_assign rfl) ?_
      refine T_done (by kernel_rfl) ?_
      refine E_ret ?_
      refine⟨_,[],rfl,rfl,bool_eq ?_,rfl⟩
      first
       | (simp;done)
       | (simp_all;done)
       | (simp [m2];done)
       | (simp;omega)
     have hdc : isCrk d = true := by simpa using hg167
     obtain⟨m1,m2⟩:=sm_ok (lim:=lim) hdc
     refine tl_ 23 rfl (L_load rfl (xb0 ty_49)) ?_
     refine t_call 24 rfl rfl rfl rfl rfl ca_46 (c_impl_IsCracker (smC d lim)) ?_
     rintro r S ⟨rfl,rfl⟩
     refine tj_ 25 rfl (L_move rfl) ?_
     refine T_split 170 (b:=_) rfl rfl (fun hg170=>?_) (fun hg170=>?_)
     ·refine tl_ 26 rfl (L_load rfl (xb3 ty_49)) ?_
      refine tl_ 28 rfl (L_load rfl (xb0 ty_49)) ?_
      refine t_fresh 5 [(⟨none,27,172,0⟩,_),(⟨none,29,174,0⟩,_)] [(172,.any),(174,.any)] [27,29] ⟨.one rfl rfl rfl (by decide) (f_call rfl rfl ca_81 (c_impl_SortedPart (smC d lim))),.one rfl rfl rfl (by decide) (f_call rfl rfl ca_81 (c_impl_SortedPart d)),trivial⟩ ?_
      refine fk_cons ?_
      rintro r S ⟨rfl,rfl⟩
      refine fk_cons ?_
      rintro r S ⟨rfl,rfl⟩
      refine fk_nil ?_
      refine tp_ 30 rfl (L_bin rfl rfl rfl rfl) ?_
      refine tj_ 31 rfl (L_pick rfl rfl) ?_
      refine tj_ 32 rfl (L_pick rfl rfl) ?_
      refine tj_ 33 rfl (L_pick rfl rfl) ?_
      refine tj_ 34 rfl (L_assign rfl) ?_
      refine T_done (by kernel_rfl) ?_
      refine E_ret ?_
      refine⟨_,[],rfl,rfl,bool_eq ?_,rfl⟩
      first
       | (simp;done)
       | (simp_all;done)
       | (simp [m2];done)
       | (simp;omega)
     simp [m1] at hg170
    simp [p4] at hg163
   simp [p1] at hg155
  exfalso;rw [Bool.and_assoc,p1,Bool.true_and,p3] at hg151;exact Bool.noConfusion hg151
 refine s_ rfl ?_
 refine s_ rfl ?_
 refine p_ rfl (L_pick rfl rfl) ?_
 refine EOps_nil ?_
 refine E_cond rfl (fun hc54=>?_) (fun hc54=>?_)
 ·exact Bool.noConfusion (hc54:false=true)
 refine E_skip ?_
 refine E_seq ?_
 refine e_tidy_A37_2 [0,2,3,4,5,6,7,8,21,48,54] ?_
 refine E_region' (L:=[0,1,2,3,4,5,6,7]) rfl ?_
 refine xmv ?_
 refine x_call rfl rfl rfl rfl rfl ca_82 (c_spec_DrawSortSmall l hb) ?_ (hq:=by rintro r S ⟨_,_,⟨rfl,rfl⟩,_,_,_⟩;exact⟨rfl,rfl⟩)
 rintro r S ⟨d,lim,⟨rfl,rfl⟩,hdv,hdr,hdp⟩
 have hdb:d.vals.length≤1048576∧d.rows.length≤1048576∧d.piv.length≤1048576:=by omega
 refine xmv ?_
 refine p_ rfl (L_extract rfl rfl) ?_
 refine p_ rfl (L_extract rfl rfl) ?_
 refine x_alloc rfl rfl rfl rfl za_49 ?_
 refine EOps_go rfl rfl (EOp_store rfl rfl rfl (xb1 ty_49) ?_)
 refine xas ?_
 refine EOps_nil ?_
 refine E_seq ?_
 refine e_tidy_A37_2 [0,2,3,4,5,6,7,8,11,12,21,48,54] ?_
 refine E_region' (L:=[0,1,2,3,4]) rfl ?_
 refine l_ rfl (L_load rfl (xb0 ty_49)) ?_
 refine xmv ?_
 refine x_call rfl rfl rfl rfl rfl ca_83 (c_impl_SortSmall d lim hdb) ?_
 rintro r S ⟨rfl,rfl⟩
 refine x_alloc rfl rfl rfl rfl za_49 ?_
 refine EOps_go rfl rfl (EOp_store rfl rfl rfl (xb1 ty_49) ?_)
 refine EOps_nil ?_
 refine E_seq ?_
 refine e_tidy_A37_2 [0,2,3,4,5,6,7,8,11,12,13,21,48,54] ?_
 refine E_region' (L:=[0,1,2,3,4,5,6,7]) rfl ?_
 refine xmv ?_
 refine x_call rfl rfl rfl rfl rfl ca_84 (c_spec_DrawSortPiece l hb) ?_ (hq:=by rintro r S ⟨_,_,⟨rfl,rfl⟩,_,_,_⟩;exact⟨rfl,rfl⟩)
 rintro r S ⟨g,v,⟨rfl,rfl⟩,hgv,hgr,hgp⟩
 have hgb:g.vals.length≤1048576∧g.rows.length≤1048576∧g.piv.length≤1048576:=by omega
 refine xmv ?_
 refine p_ rfl (L_extract rfl rfl) ?_
 refine p_ rfl (L_extract rfl rfl) ?_
 refine x_alloc rfl rfl rfl rfl za_49 ?_
 refine EOps_go rfl rfl (EOp_store rfl rfl rfl (xb1 ty_49) ?_)
 refine xas ?_
 refine EOps_nil ?_
 refine E_seq ?_
 refine e_tidy_A37_2 [0,2,3,4,5,6,7,8,11,12,13,14,15,21,48,54] ?_
 refine E_region' (L:=[0,1,2,3,4,5,6,7,8]) rfl ?_
 refine l_ rfl (L_load rfl (xb0 ty_49)) ?_
 refine xmv ?_
 refine x_call rfl rfl rfl rfl rfl ca_85 (c_impl_SortPiece g v hgb) ?_
 rintro r S ⟨rfl,rfl⟩
 refine xmv ?_
 refine p_ rfl (L_extract rfl rfl) ?_
 refine p_ rfl (L_extract rfl rfl) ?_
 refine x_alloc rfl rfl rfl rfl za_49 ?_
 refine EOps_go rfl rfl (EOp_store rfl rfl rfl (xb1 ty_49) ?_)
 refine xas ?_
 refine EOps_nil ?_
 refine E_seq ?_
 refine e_tidy_A37_2 [0,2,3,4,5,6,7,8,11,12,13,14,15,16,17,21,48,54] ?_
 refine E_region' (L:=[0,1,2,3,4,5,6,7,8]) rfl ?_
 refine l_ rfl (L_load rfl (xb0 ty_49)) ?_
 refine xmv ?_
 refine x_call rfl rfl rfl rfl rfl ca_86 (c_spec_SortPiece g v hgb) ?_
 rintro r S ⟨rfl,rfl⟩
 refine xmv ?_
 refine p_ rfl (L_extract rfl rfl) ?_
 refine p_ rfl (L_extract rfl rfl) ?_
 refine x_alloc rfl rfl rfl rfl za_49 ?_
 refine EOps_go rfl rfl (EOp_store rfl rfl rfl (xb1 ty_49) ?_)
 refine xas ?_
 refine EOps_nil ?_
 refine E_seq ?_
 refine E_seq ?_
 refine e_tidy_A37_2 [0,2,3,4,5,6,7,8,11,12,13,14,15,16,17,18,19,21,48,54] ?_
 refine E_drawT mixed ?_
 refine tl_ 0 rfl (L_load rfl (xb0 ty_49)) ?_
 refine tl_ 1 rfl (L_load rfl (xb0 ty_49)) ?_
 refine tj_ 2 rfl (L_move rfl) ?_
 refine t_call 3 rfl rfl rfl rfl rfl ca_87 (c_spec_SortSmall d lim hdb) ?_
 rintro r S ⟨rfl,rfl⟩
 refine t_call 4 rfl rfl rfl rfl rfl ca_37 (c_spec_EqualCrackers (smC d lim) (smC d lim)) ?_
 rintro r S ⟨rfl,rfl⟩
 refine tj_ 5 rfl (L_not rfl rfl) ?_
 refine tj_ 6 rfl (L_move rfl) ?_
 refine T_split 134 (b:=_) rfl rfl (fun hg134=>?_) (fun hg134=>?_)
 ·simp at hg134
 refine tj_ 7 rfl (L_move rfl) ?_
 refine tj_ 8 rfl (L_move rfl) ?_
 refine tj_ 9 rfl (L_binB rfl bo_4 rfl rfl rfl) ?_
 refine tj_ 10 rfl (L_pick rfl rfl) ?_
 refine tj_ 11 rfl (L_move rfl) ?_
 refine T_split 139 (b:=_) rfl rfl (fun hg139=>?_) (fun hg139=>?_)
 ·simp at hg139
 refine tl_ 12 rfl (L_load rfl (xb3 ty_49)) ?_
 refine tl_ 13 rfl (L_load rfl (xb0 ty_49)) ?_
 refine t_call 14 rfl rfl rfl rfl rfl ca_37 (c_spec_EqualCrackers (spC g v) (spC g v)) ?_
 rintro r S ⟨rfl,rfl⟩
 refine tj_ 15 rfl (L_not rfl rfl) ?_
 refine tj_ 16 rfl (L_pick rfl rfl) ?_
 refine T_done (by kernel_rfl) ?_
 refine E_cond rfl (fun hc144=>?_) (fun hc144=>?_)
 ·simp at hc144
 refine E_skip ?_
 refine E_seq ?_
 refine e_tidy_A37_2 [0,2,3,4,5,6,7,8,11,12,13,14,15,16,17,18,19,21,48,54,144] ?_
 refine E_drawT mixed ?_
 refine tj_ 0 rfl (L_move rfl) ?_
 refine tj_ 1 rfl (L_not rfl rfl) ?_
 refine tj_ 2 rfl (L_move rfl) ?_
 refine T_split 147 (b:=_) rfl rfl (fun hg147=>?_) (fun hg147=>?_)
 ·refine tk_ 3 rfl ?_
  refine tk_ 4 rfl ?_
  refine tk_ 5 rfl ?_
  refine tk_ 6 rfl ?_
  refine tk_ 7 rfl ?_
  refine tk_ 8 rfl ?_
  refine tk_ 9 rfl ?_
  refine tk_ 10 rfl ?_
  refine tk_ 11 rfl ?_
  refine tk_ 12 rfl ?_
  refine tk_ 13 rfl ?_
  refine tk_ 14 rfl ?_
  refine tk_ 15 rfl ?_
  refine tk_ 16 rfl ?_
  refine tj_ 17 rfl (L_pick rfl rfl) ?_
  refine tj_ 18 rfl (L_move rfl) ?_
  refine tl_ 19 rfl (L_load rfl (xb0 ty_49)) ?_
  refine t_call 20 rfl rfl rfl rfl rfl ca_39 (c_spec_IsCracker d) ?_
  rintro r S ⟨rfl,rfl⟩
  refine tj_ 21 rfl (L_not rfl rfl) ?_
  refine tj_ 22 rfl (L_move rfl) ?_
  refine T_split 167 (b:=_) rfl rfl (fun hg167=>?_) (fun hg167=>?_)
  ·refine tk_ 23 rfl ?_
   refine tk_ 24 rfl ?_
   refine tk_ 25 rfl ?_
   refine tk_ 26 rfl ?_
   refine tk_ 27 rfl ?_
   refine tk_ 28 rfl ?_
   refine tk_ 29 rfl ?_
   refine tk_ 30 rfl ?_
   refine tk_ 31 rfl ?_
   refine tj_ 32 rfl (L_pick rfl rfl) ?_
   refine tj_ 33 rfl (L_pick rfl rfl) ?_
   refine tj_ 34 rfl (L_assign rfl) ?_
   refine T_done (by kernel_rfl) ?_
   refine E_ret ?_
   refine⟨_,[],rfl,rfl,bool_eq ?_,rfl⟩
   first
    | (simp;done)
    | (simp_all;done)
    | (simp [m2];done)
    | (simp;omega)
  have hdc : isCrk d = true := by simpa using hg167
  obtain⟨m1,m2⟩:=sm_ok (lim:=lim) hdc
  refine tl_ 23 rfl (L_load rfl (xb0 ty_49)) ?_
  refine t_call 24 rfl rfl rfl rfl rfl ca_46 (c_impl_IsCracker (smC d lim)) ?_
  rintro r S ⟨rfl,rfl⟩
  refine tj_ 25 rfl (L_move rfl) ?_
  refine T_split 170 (b:=_) rfl rfl (fun hg170=>?_) (fun hg170=>?_)
  ·refine tl_ 26 rfl (L_load rfl (xb3 ty_49)) ?_
   refine tl_ 28 rfl (L_load rfl (xb0 ty_49)) ?_
   refine t_fresh 5 [(⟨none,27,172,0⟩,_),(⟨none,29,174,0⟩,_)] [(172,.any),(174,.any)] [27,29] ⟨.one rfl rfl rfl (by decide) (f_call rfl rfl ca_81 (c_impl_SortedPart (smC d lim))),.one rfl rfl rfl (by decide) (f_call rfl rfl ca_81 (c_impl_SortedPart d)),trivial⟩ ?_
   refine fk_cons ?_
   rintro r S ⟨rfl,rfl⟩
   refine fk_cons ?_
   rintro r S ⟨rfl,rfl⟩
   refine fk_nil ?_
   refine tp_ 30 rfl (L_bin rfl rfl rfl rfl) ?_
   refine tj_ 31 rfl (L_pick rfl rfl) ?_
   refine tj_ 32 rfl (L_pick rfl rfl) ?_
   refine tj_ 33 rfl (L_pick rfl rfl) ?_
   refine tj_ 34 rfl (L_assign rfl) ?_
   refine T_done (by kernel_rfl) ?_
   refine E_ret ?_
   refine⟨_,[],rfl,rfl,bool_eq ?_,rfl⟩
   first
    | (simp;done)
    | (simp_all;done)
    | (simp [m2];done)
    | (simp;omega)
  simp [m1] at hg170
 have hk2 : spK g v = true := by simpa using hg147
 obtain⟨p1,p2,p3⟩:=sp_ok hk2
 have hgc:isCrk g=true∧isIn v (-999) 999=true:=by simpa [spK] using hk2
 have p4:prL (spC g v)=prL g:=prL_of (crk_lens p1).2.1 (crk_lens hgc.1).2.1 p2
 refine tl_ 3 rfl (L_load rfl (xb0 ty_49)) ?_
 refine tj_ 4 rfl (L_move rfl) ?_
 refine t_call 5 rfl rfl rfl rfl rfl ca_88 (c_impl_IsSortedPiece (spC g v) v) ?_
 rintro r S ⟨rfl,rfl⟩
 refine tj_ 6 rfl (L_move rfl) ?_
 refine T_split 151 (b:=_) rfl rfl (fun hg151=>?_) (fun hg151=>?_)
 ·refine tl_ 7 rfl (L_load rfl (xb3 ty_49)) ?_
  refine t_call 8 rfl rfl rfl rfl rfl ca_46 (c_impl_IsCracker (spC g v)) ?_
  rintro r S ⟨rfl,rfl⟩
  refine tj_ 9 rfl (L_pick rfl rfl) ?_
  refine tj_ 10 rfl (L_move rfl) ?_
  refine T_split 155 (b:=_) rfl rfl (fun hg155=>?_) (fun hg155=>?_)
  ·refine tl_ 11 rfl (L_load rfl (xb3 ty_49)) ?_
   refine tl_ 13 rfl (L_load rfl (xb0 ty_49)) ?_
   refine t_fresh 20 [(⟨none,12,157,0⟩,_),(⟨none,14,159,0⟩,_)] [(157,.any),(159,.any)] [12,14] ⟨.one rfl rfl rfl (by decide) (f_call rfl rfl ca_48 (c_laws_pairsOf (spC g v) p1)),.one rfl rfl rfl (by decide) (f_call rfl rfl ca_48 (c_laws_pairsOf g hgc.1)),trivial⟩ ?_
   refine fk_cons ?_
   rintro r S ⟨rfl,rfl⟩
   refine fk_cons ?_
   rintro r S ⟨rfl,rfl⟩
   refine fk_nil ?_
   refine t_call 15 rfl rfl rfl rfl rfl ca_38 (c_laws_sameInts (prL (spC g v)) (prL g)) ?_
   rintro r S ⟨rfl,rfl⟩
   refine tj_ 16 rfl (L_pick rfl rfl) ?_
   refine tj_ 17 rfl (L_pick rfl rfl) ?_
   refine tj_ 18 rfl (L_move rfl) ?_
   refine T_split 163 (b:=_) rfl rfl (fun hg163=>?_) (fun hg163=>?_)
   ·refine tl_ 19 rfl (L_load rfl (xb3 ty_49)) ?_
    refine t_call 20 rfl rfl rfl rfl rfl ca_39 (c_spec_IsCracker d) ?_
    rintro r S ⟨rfl,rfl⟩
    refine tj_ 21 rfl (L_not rfl rfl) ?_
    refine tj_ 22 rfl (L_move rfl) ?_
    refine T_split 167 (b:=_) rfl rfl (fun hg167=>?_) (fun hg167=>?_)
    ·refine tk_ 23 rfl ?_
     refine tk_ 24 rfl ?_
     refine tk_ 25 rfl ?_
     refine tk_ 26 rfl ?_
     refine tk_ 27 rfl ?_
     refine tk_ 28 rfl ?_
     refine tk_ 29 rfl ?_
     refine tk_ 30 rfl ?_
     refine tk_ 31 rfl ?_
     refine tj_ 32 rfl (L_pick rfl rfl) ?_
     refine tj_ 33 rfl (L_pick rfl rfl) ?_
     refine tj_ 34 rfl (L_assign rfl) ?_
     refine T_done (by kernel_rfl) ?_
     refine E_ret ?_
     refine⟨_,[],rfl,rfl,bool_eq ?_,rfl⟩
     first
      | (simp;done)
      | (simp_all;done)
      | (simp [m2];done)
      | (simp;omega)
    have hdc : isCrk d = true := by simpa using hg167
    obtain⟨m1,m2⟩:=sm_ok (lim:=lim) hdc
    refine tl_ 23 rfl (L_load rfl (xb0 ty_49)) ?_
    refine t_call 24 rfl rfl rfl rfl rfl ca_46 (c_impl_IsCracker (smC d lim)) ?_
    rintro r S ⟨rfl,rfl⟩
    refine tj_ 25 rfl (L_move rfl) ?_
    refine T_split 170 (b:=_) rfl rfl (fun hg170=>?_) (fun hg170=>?_)
    ·refine tl_ 26 rfl (L_load rfl (xb3 ty_49)) ?_
     refine tl_ 28 rfl (L_load rfl (xb0 ty_49)) ?_
     refine t_fresh 5 [(⟨none,27,172,0⟩,_),(⟨none,29,174,0⟩,_)] [(172,.any),(174,.any)] [27,29] ⟨.one rfl rfl rfl (by decide) (f_call rfl rfl ca_81 (c_impl_SortedPart (smC d lim))),.one rfl rfl rfl (by decide) (f_call rfl rfl ca_81 (c_impl_SortedPart d)),trivial⟩ ?_
     refine fk_cons ?_
     rintro r S ⟨rfl,rfl⟩
     refine fk_cons ?_
     rintro r S ⟨rfl,rfl⟩
     refine fk_nil ?_
     refine tp_ 30 rfl (L_bin rfl rfl rfl rfl) ?_
     refine tj_ 31 rfl (L_pick rfl rfl) ?_
     refine tj_ 32 rfl (L_pick rfl rfl) ?_
     refine tj_ 33 rfl (L_pick rfl rfl) ?_
     refine tj_ 34 rfl (L_assign rfl) ?_
     refine T_done (by kernel_rfl) ?_
     refine E_ret ?_
     refine⟨_,[],rfl,rfl,bool_eq ?_,rfl⟩
     first
      | (simp;done)
      | (simp_all;done)
      | (simp [m2];done)
      | (simp;omega)
    simp [m1] at hg170
   simp [p4] at hg163
  simp [p1] at hg155
 exfalso;rw [Bool.and_assoc,p1,Bool.true_and,p3] at hg151;exact Bool.noConfusion hg151

end Go.Proofs.YtlodlnbhjghjoaaGreat.E
