/- Walks through functions, by program out of the session's annotations. -/
import Derived.Test.YtlodlnbhjghjoaaGreatA162
import Derived.Test.YtlodlnbhjghjoaaGreatA139
import Derived.Test.YtlodlnbhjghjoaaGreatA105
import Derived.Test.YtlodlnbhjghjoaaGreatA107
import Derived.Test.YtlodlnbhjghjoaaGreatA49
import Derived.Test.YtlodlnbhjghjoaaGreatA24
import Derived.Test.YtlodlnbhjghjoaaGreatA06
import Derived.Test.YtlodlnbhjghjoaaGreatA08
import Derived.Test.YtlodlnbhjghjoaaGreatF3
import Derived.Test.YtlodlnbhjghjoaaGreatA154
namespace Go.Proofs.YtlodlnbhjghjoaaGreat.E
open Go Go.RowKit Go.Proofs
set_option linter.unusedVariables false
set_option linter.unusedSimpArgs false

structure PendLaw (c : Crk) (p : Pnd) (x : Int × Int) : Prop where
 k1:isPnd (mgC c p x) (mgP c p x)=true
 k2:liveL (mgC c p x) (mgP c p x) allR=liveL c p allR
 k3:sfL c p x=liveL c p x
 k4:isCrk (mgC c p x)=true
 k5:sfL c p x=riL (mgC c p x) x
 k6:isPnd (sfC c p x) (mgP c p x)=true
 k7:liveL (sfC c p x) (mgP c p x) allR=liveL c p allR
theorem pend_law {c : Crk} {p : Pnd} {x : Int × Int} (hk : mgK c p x = true) : PendLaw c p x := by
 have hq:=mg_ok hk
 obtain⟨s1,s2,s3⟩:=sf_ok hk
 have hd:=(crk_iff _).1 s1
 exact⟨pnd_mk hq,mg_live hk,s2.trans (ri_live hk),(crk_iff _).2 hq.crk,s2,pnd_mk (pnd_perm hd s3 hq),(live_perm hd s3 hq).trans (mg_live hk)⟩

theorem e_for_A163_1 {P : Program} {N : Nat} {s : Slots} {R : List Res} {Q : Exit → Slots → List Res → Prop} {α : Type} {c : Code} (keep : List Nat) (mods : α → Slots) (Rf : α → List Res) (I : α → Prop) (m : α → Nat) (x0 : α) {base : Slots} (h0 : I x0) (hR : R = Rf x0) (h1 : chk s (mods x0))
  (round:∀ x,I x→ECode P N c (mods x++base) (Rf x) (EThen (fun s' R'=>∃ y,m y<m x∧I y∧R'=Rf y∧chk s' (mods y)∧chk s' base) Q)) (hb:keepOf s keep=base:=by simp only [E.keepOf,E.get,E.ev,E.cv,E.fill',E.fill,E.slotsOf,Res.sh,AC.sh,AC.sh.shs,AV.sh,E.splice,List.map_cons,List.map_nil,List.cons_append,List.nil_append,List.append_nil,List.length_cons,List.length_nil,List.take_zero,List.drop_zero,List.take_succ_cons,List.drop_succ_cons,List.drop_nil,List.take_nil,List.set_cons_zero,List.set_cons_succ,Nat.zero_add,Nat.add_zero,Nat.reduceAdd,Nat.reduceSub,reduceIte,Nat.reduceEqDiff,E.back,E.backR,E.ix,Res.un,AC.un,AC.un.uns,AV.un,E.un,Option.map_some,Option.map_none,Option.getD_some,List.getElem?_cons_zero,List.getElem?_cons_succ,List.getElem?_nil,crkR,crkO,pndO,pndR];rfl):ECode P N (.loop c) s R Q:=E_for keep mods Rf I m x0 hb h0 hR h1 round

set_option maxRecDepth 20000 in
set_option maxHeartbeats 16000000 in
theorem c_laws_FnPending (l : List Int) (hb0 : ∀ x ∈ l, 0 ≤ x ∧ x ≤ 255) : EFn Tryz.prog 10 [.c (.ro (bytes l))] [] (fun r S => r = .c (.sc (.bool true)) ∧ S = []) := by
 refine E_fn Tryz.func10 rfl (Nat.le_of_ble_eq_true rfl) ?_
 refine E_seq ?_
 refine E_region' (L:=[0]) rfl ?_
 refine xas ?_
 refine EOps_nil ?_
 refine E_seq ?_
 refine E_seq ?_
 refine e_tidy_A107_0 [0,2] ?_
 refine E_region' (L:=[0,1]) rfl ?_
 refine xmv ?_
 refine x_call rfl rfl rfl rfl rfl ca_35 (c_laws_big l) ?_
 rintro r S ⟨rfl,rfl⟩
 refine EOps_nil ?_
 refine E_cond rfl (fun hc18=>?_) (fun hc18=>?_)
 ·refine E_seq ?_
  refine E_region' (L:=[0]) rfl ?_
  refine xas ?_
  refine EOps_nil ?_
  refine E_ret ?_
  exact⟨_,[],rfl,rfl,rfl,rfl⟩
 have hb : byL l := ⟨hb0, by simp at hc18; omega⟩
 refine E_skip ?_
 refine E_seq ?_
 refine e_tidy_A107_0 [0,2,18] ?_
 refine E_region' (L:=[0,1,2,3,4,5,6,7,8,9,10,11]) rfl ?_
 refine xmv ?_
 refine x_call rfl rfl rfl rfl rfl ca_69 (c_spec_DrawMergeRange l hb) ?_ (hq:=by rintro r S ⟨_,_,_,⟨rfl,rfl⟩,_,_,_,_,_⟩;exact⟨rfl,rfl⟩)
 rintro r S ⟨c,p,x,⟨rfl,rfl⟩,hcv,hcr,hcp,hpi,hpd⟩
 have hcb:(c.vals.length≤1048576∧c.rows.length≤1048576∧c.piv.length≤1048576)∧p.ins.length≤1048576∧p.del.length≤1048576:=by omega
 have hml:=mgL_le' (c:=c) (p:=p) (r:=x) hcb.1 hcb.2
 have hsl:=sf_le (c:=c) (p:=p) (r:=x) hcb.1 hcb.2
 refine xmv ?_
 refine p_ rfl (L_extract rfl rfl) ?_
 refine p_ rfl (L_extract rfl rfl) ?_
 refine p_ rfl (L_extract rfl rfl) ?_
 refine x_alloc rfl rfl rfl rfl za_49 ?_
 refine x_alloc rfl rfl rfl rfl za_91 ?_
 refine x_alloc rfl rfl rfl rfl za_53 ?_
 refine EOps_go rfl rfl (EOp_store rfl rfl rfl (xb1 ty_49) ?_)
 refine EOps_go rfl rfl (EOp_store rfl rfl rfl (xb1 ty_91) ?_)
 refine EOps_go rfl rfl (EOp_store rfl rfl rfl (xb1 ty_53) ?_)
 refine EOps_nil ?_
 refine E_seq ?_
 refine e_tidy_A107_0 [0,2,3,4,5,18] ?_
 refine E_region' (L:=[0,1,2,3,4,5,6,7,8,9,10,11,12]) rfl ?_
 refine l_ rfl (L_load rfl (xb0 ty_49)) ?_
 refine l_ rfl (L_load rfl (xb0 ty_91)) ?_
 refine l_ rfl (L_load rfl (xb0 ty_53)) ?_
 refine x_call rfl rfl rfl rfl rfl ca_70 (c_impl_MergeRange c p x hcb) ?_
 rintro r S ⟨rfl,rfl⟩
 refine xmv ?_
 refine p_ rfl (L_extract rfl rfl) ?_
 refine p_ rfl (L_extract rfl rfl) ?_
 refine p_ rfl (L_extract rfl rfl) ?_
 refine x_alloc rfl rfl rfl rfl za_49 ?_
 refine x_alloc rfl rfl rfl rfl za_91 ?_
 refine EOps_go rfl rfl (EOp_store rfl rfl rfl (xb1 ty_49) ?_)
 refine EOps_go rfl rfl (EOp_store rfl rfl rfl (xb1 ty_91) ?_)
 refine xas ?_
 refine EOps_nil ?_
 refine E_seq ?_
 refine e_tidy_A107_0 [0,2,3,4,5,6,7,8,18] ?_
 refine E_region' (L:=[0,1,2,3,4,5,6,7,8,9,10,11,12]) rfl ?_
 refine l_ rfl (L_load rfl (xb0 ty_49)) ?_
 refine l_ rfl (L_load rfl (xb0 ty_91)) ?_
 refine l_ rfl (L_load rfl (xb0 ty_53)) ?_
 refine x_call rfl rfl rfl rfl rfl ca_71 (c_spec_MergeRange c p x hcb) ?_
 rintro r S ⟨rfl,rfl⟩
 refine xmv ?_
 refine p_ rfl (L_extract rfl rfl) ?_
 refine p_ rfl (L_extract rfl rfl) ?_
 refine p_ rfl (L_extract rfl rfl) ?_
 refine x_alloc rfl rfl rfl rfl za_49 ?_
 refine x_alloc rfl rfl rfl rfl za_91 ?_
 refine EOps_go rfl rfl (EOp_store rfl rfl rfl (xb1 ty_49) ?_)
 refine EOps_go rfl rfl (EOp_store rfl rfl rfl (xb1 ty_91) ?_)
 refine xas ?_
 refine EOps_nil ?_
 refine E_seq ?_
 refine E_seq ?_
 refine e_tidy_A107_0 [0,2,3,4,5,6,7,8,9,10,11,18] ?_
 refine E_region' (L:=[0,1,2,3,4,5,6,7,8,9,10,11,12,13,14,15,16,17,18,19,20,21,22,23,24,25]) rfl ?_
 refine xmv ?_
 refine xmv ?_
 refine p_ rfl (L_bin rfl rfl rfl rfl) ?_
 refine xmv ?_
 refine EOps_split 44 (b:=_) rfl (fun hg44=>?_) (fun hg44=>?_)
 ·simp at hg44
 refine l_ rfl (L_load rfl (xb3 ty_49)) ?_
 refine l_ rfl (L_load rfl (xb0 ty_49)) ?_
 refine x_call rfl rfl rfl rfl rfl ca_37 (c_spec_EqualCrackers (mgC c p x) (mgC c p x)) ?_
 rintro r S ⟨rfl,rfl⟩
 refine p_ rfl (L_not rfl rfl) ?_
 refine p_ rfl (L_pick rfl rfl) ?_
 refine xmv ?_
 refine EOps_split 50 (b:=_) rfl (fun hg50=>?_) (fun hg50=>?_)
 ·simp at hg50
 refine p_ rfl (l_field rfl fo_91_0) ?_
 refine l_ rfl (L_load rfl (xb0 ty_89)) ?_
 refine p_ rfl (l_len rfl sl_89) ?_
 refine p_ rfl (l_field rfl fo_91_0) ?_
 refine l_ rfl (L_load rfl (xb0 ty_89)) ?_
 refine p_ rfl (l_len rfl sl_89) ?_
 refine p_ rfl (L_bin rfl rfl rfl rfl) ?_
 refine p_ rfl (L_pick rfl rfl) ?_
 refine xmv ?_
 refine EOps_split 59 (b:=_) rfl (fun hg59=>?_) (fun hg59=>?_)
 ·simp at hg59
 refine p_ rfl (l_field rfl fo_91_1) ?_
 refine l_ rfl (L_load rfl (xb0 ty_22)) ?_
 refine p_ rfl (l_field rfl fo_91_1) ?_
 refine l_ rfl (L_load rfl (xb0 ty_22)) ?_
 refine x_call rfl rfl rfl rfl rfl ca_38 (c_laws_sameInts (mgP c p x).del (mgP c p x).del) ?_
 rintro r S ⟨rfl,rfl⟩
 refine p_ rfl (L_not rfl rfl) ?_
 refine p_ rfl (L_pick rfl rfl) ?_
 refine EOps_nil ?_
 refine E_cond rfl (fun hc66=>?_) (fun hc66=>?_)
 ·simp at hc66
 refine E_skip ?_
 refine E_seq ?_
 refine E_seq ?_
 refine e_tidy_A107_0 [0,2,3,4,5,6,7,8,9,10,11,18,66] ?_
 refine E_region' (L:=[0,1,2,3,4,5,6,7,8]) rfl ?_
 refine l_ rfl (L_load rfl (xb0 ty_49)) ?_
 refine l_ rfl (L_load rfl (xb0 ty_91)) ?_
 refine x_call rfl rfl rfl rfl rfl ca_72 (c_spec_IsPending c p (by omega)) ?_
 rintro r S ⟨rfl,rfl⟩
 refine p_ rfl (L_not rfl rfl) ?_
 refine xmv ?_
 refine EOps_split 71 (b:=_) rfl (fun hg71=>?_) (fun hg71=>?_)
 ·refine s_ rfl ?_
  refine s_ rfl ?_
  refine s_ rfl ?_
  refine p_ rfl (L_pick rfl rfl) ?_
  refine EOps_nil ?_
  refine E_cond rfl (fun hc75=>?_) (fun hc75=>?_)
  ·have hk : mgK c p x = false := by
    simp only [mgK]
    first|(simp_all;done)|simp_all
   have hcc:mgC c p x=c∧mgN c p x=0:=by simp [mgC,mgN,hk]
   rw [hcc.1,hcc.2]
   refine E_seq ?_
   refine e_tidy_A107_0 [0,2,3,4,5,6,7,8,9,10,11,18,66,75] ?_
   refine E_region' (L:=[0,1,2,3,4,5,6,7]) rfl ?_
   refine l_ rfl (L_load rfl (xb0 ty_49)) ?_
   refine l_ rfl (L_load rfl (xb0 ty_49)) ?_
   refine x_call rfl rfl rfl rfl rfl ca_37 (c_spec_EqualCrackers c c) ?_
   rintro r S ⟨rfl,rfl⟩
   refine xmv ?_
   refine EOps_split 79 (b:=_) rfl (fun hg79=>?_) (fun hg79=>?_)
   ·refine xmv ?_
    refine p_ rfl (L_bin rfl rfl rfl rfl) ?_
    refine p_ rfl (L_pick rfl rfl) ?_
    refine xas ?_
    refine EOps_nil ?_
    refine E_ret ?_
    refine⟨_,[],rfl,rfl,bool_eq ?_,rfl⟩
    first
     | (simp;done)
     | (simp_all;done)
     | simp [k7]
   simp at hg79
  exact Bool.noConfusion (hc75:true=false)
 refine l_ rfl (L_load rfl (xb3 ty_53)) ?_
 refine x_call rfl rfl rfl rfl rfl ca_41 (c_spec_IsRange x) ?_
 rintro r S ⟨rfl,rfl⟩
 refine p_ rfl (L_not rfl rfl) ?_
 refine p_ rfl (L_pick rfl rfl) ?_
 refine EOps_nil ?_
 refine E_cond rfl (fun hc75=>?_) (fun hc75=>?_)
 ·have hk : mgK c p x = false := by
   simp only [mgK]
   first|(simp_all;done)|simp_all
  have hcc:mgC c p x=c∧mgN c p x=0:=by simp [mgC,mgN,hk]
  rw [hcc.1,hcc.2]
  refine E_seq ?_
  refine e_tidy_A107_0 [0,2,3,4,5,6,7,8,9,10,11,18,66,75] ?_
  refine E_region' (L:=[0,1,2,3,4,5,6,7]) rfl ?_
  refine l_ rfl (L_load rfl (xb0 ty_49)) ?_
  refine l_ rfl (L_load rfl (xb0 ty_49)) ?_
  refine x_call rfl rfl rfl rfl rfl ca_37 (c_spec_EqualCrackers c c) ?_
  rintro r S ⟨rfl,rfl⟩
  refine xmv ?_
  refine EOps_split 79 (b:=_) rfl (fun hg79=>?_) (fun hg79=>?_)
  ·refine xmv ?_
   refine p_ rfl (L_bin rfl rfl rfl rfl) ?_
   refine p_ rfl (L_pick rfl rfl) ?_
   refine xas ?_
   refine EOps_nil ?_
   refine E_ret ?_
   refine⟨_,[],rfl,rfl,bool_eq ?_,rfl⟩
   first
    | (simp;done)
    | (simp_all;done)
    | simp [k7]
  simp at hg79
 have hk : mgK c p x = true := by
  simp only [mgK]
  simp_all
 obtain⟨k1,k2,k3,k4,k5,k6,k7⟩:=pend_law hk
 refine E_skip ?_
 refine E_seq ?_
 refine E_seq ?_
 refine E_region' (L:=[0]) rfl ?_
 refine xas ?_
 refine EOps_nil ?_
 refine E_block ?_
 refine e_for_A163_1 (α:=Nat) [0,3,4,5,6,7,8,9,10,11,18,66,75] (fun k=>[(12,.c (.sc (.int .i64 ((k:Int))))),(2,.any)]) (fun _=>_) (fun k=>k≤(mgP c p x).ins.length) (fun k=>(mgP c p x).ins.length - k) (0) ?_ (rfl) ⟨.inr rfl,.inl rfl,trivial⟩ ?_
 ·simp
 rintro k hkl
 refine E_seq ?_
 refine E_seq ?_
 refine E_region' (L:=[0,1,2,3,4]) rfl ?_
 refine xmv ?_
 refine p_ rfl (l_field rfl fo_91_0) ?_
 refine l_ rfl (L_load rfl (xb0 ty_89)) ?_
 refine p_ rfl (l_len rfl sl_89) ?_
 refine p_ rfl (L_bin rfl rfl rfl rfl) ?_
 refine EOps_nil ?_
 refine E_cond rfl (fun hc87=>?_) (fun hc87=>?_)
 ·have hk1 : k < (mgP c p x).ins.length := by simpa [pairs_len] using hc87
  obtain⟨y,hy⟩:=at_lt (l:=(mgP c p x).ins) hk1
  have hyo:=mg_out hk y (List.mem_of_getElem? hy)
  refine E_skip ?_
  refine E_seq ?_
  refine E_block ?_
  refine E_seq ?_
  refine e_tidy_A107_0 [0,2,3,4,5,6,7,8,9,10,11,12,18,66,75,87,110] ?_
  refine E_drawT mixed ?_
  refine tj_ 0 rfl (l_field rfl fo_91_0) ?_
  refine tl_ 1 rfl (L_load rfl (xb0 ty_89)) ?_
  refine tj_ 2 rfl (L_move rfl) ?_
  refine tj_ 3 rfl (L_index rfl rfl (xii sl_89 ty_104)) ?_
  refine tl_ 4 rfl (L_load rfl (xb0 ty_104)) ?_
  refine tj_ 5 rfl (l_field rfl fo_91_0) ?_
  refine tl_ 6 rfl (L_load rfl (xb0 ty_89)) ?_
  refine tj_ 7 rfl (L_move rfl) ?_
  refine tj_ 8 rfl (L_index rfl rfl (xii sl_89 ty_104)) ?_
  refine tl_ 9 rfl (L_load rfl (xb0 ty_104)) ?_
  refine tj_ 10 rfl (L_binA rfl se_104 fd_104 rfl rfl rfl rfl ⟨rfl,rfl⟩ rfl) ?_
  refine tj_ 11 rfl (L_move rfl) ?_
  refine T_split 101 (b:=_) rfl rfl (fun hg101=>?_) (fun hg101=>?_)
  ·simp at hg101
  refine tl_ 12 rfl (L_load rfl (xb3 ty_53)) ?_
  refine tj_ 13 rfl (l_field rfl fo_91_0) ?_
  refine tl_ 14 rfl (L_load rfl (xb0 ty_89)) ?_
  refine tj_ 15 rfl (L_move rfl) ?_
  refine tj_ 16 rfl (L_index rfl rfl (xii sl_89 ty_104)) ?_
  refine tj_ 17 rfl (l_field rfl fo_104_0) ?_
  refine tl_ 18 rfl (L_load rfl (xb0 ty_3)) ?_
  refine t_call 19 rfl rfl rfl rfl rfl ca_73 (c_spec_InRange x y.1) ?_
  rintro r S ⟨rfl,rfl⟩
  refine tj_ 20 rfl (L_pick rfl rfl) ?_
  refine T_done (by kernel_rfl) ?_
  refine E_cond rfl (fun hc110=>?_) (fun hc110=>?_)
  ·simp [hyo] at hc110
  refine E_skip ?_
  refine E_region' (L:=[0,1,2]) rfl ?_
  refine xmv ?_
  refine p_ rfl xb2 ?_
  refine xas ?_
  refine EOps_nil ?_
  refine⟨k+1,?_,?_,rfl,⟨.inr rfl,.inl rfl,trivial⟩,⟨.inr rfl,.inr rfl,.inr rfl,.inr rfl,.inr rfl,.inr rfl,.inr rfl,.inr rfl,.inr rfl,.inr rfl,.inr rfl,.inr rfl,.inr rfl,trivial⟩⟩
  ·first|omega|(dsimp only;omega)|(simp;omega)
  first|trivial|omega|(dsimp only;omega)|(simp;omega)
 refine E_exit ?_
 refine E_seq ?_
 refine E_region' (L:=[0,1,2]) rfl ?_
 refine p_ rfl (L_build rfl bd_53 rfl rfl) ?_
 refine x_alloc rfl rfl rfl rfl za_53 ?_
 refine EOps_go rfl rfl (EOp_store rfl rfl rfl (xb1 ty_53) ?_)
 refine EOps_nil ?_
 refine E_seq ?_
 refine e_tidy_A107_0 [0,2,3,4,5,6,7,8,9,10,11,12,13,18,66,75,87,110] ?_
 refine E_region' (L:=[0,1,2,3,4,5,6,7,8,9,10,11,12]) rfl ?_
 refine l_ rfl (L_load rfl (xb0 ty_49)) ?_
 refine l_ rfl (L_load rfl (xb0 ty_91)) ?_
 refine l_ rfl (L_load rfl (xb0 ty_53)) ?_
 refine x_call rfl rfl rfl rfl rfl ca_65 (c_impl_SelectFresh c p x hcb) ?_
 rintro r S ⟨rfl,rfl⟩
 refine xmv ?_
 refine p_ rfl (L_extract rfl rfl) ?_
 refine p_ rfl (L_extract rfl rfl) ?_
 refine p_ rfl (L_extract rfl rfl) ?_
 refine x_alloc rfl rfl rfl rfl za_49 ?_
 refine x_alloc rfl rfl rfl rfl za_91 ?_
 refine EOps_go rfl rfl (EOp_store rfl rfl rfl (xb1 ty_49) ?_)
 refine EOps_go rfl rfl (EOp_store rfl rfl rfl (xb1 ty_91) ?_)
 refine xas ?_
 refine EOps_nil ?_
 refine E_seq ?_
 refine e_tidy_A107_0 [0,2,3,4,5,6,7,8,9,10,11,12,13,14,15,16,18,66,75,87,110] ?_
 refine E_drawT mixed ?_
 refine tl_ 0 rfl (L_load rfl (xb0 ty_49)) ?_
 refine tl_ 1 rfl (L_load rfl (xb0 ty_91)) ?_
 refine t_call 2 rfl rfl rfl rfl rfl ca_74 (c_impl_IsPending (mgC c p x) (mgP c p x) (by omega)) ?_
 rintro r S ⟨rfl,rfl⟩
 refine tj_ 3 rfl (L_move rfl) ?_
 refine T_split 123 (b:=_) rfl rfl (fun hg123=>?_) (fun hg123=>?_)
 ·refine tl_ 4 rfl (L_load rfl (xb3 ty_49)) ?_
  refine tl_ 5 rfl (L_load rfl (xb0 ty_91)) ?_
  refine tl_ 6 rfl (L_load rfl (xb0 ty_53)) ?_
  refine tl_ 8 rfl (L_load rfl (xb0 ty_49)) ?_
  refine tl_ 9 rfl (L_load rfl (xb0 ty_91)) ?_
  refine tl_ 10 rfl (L_load rfl (xb0 ty_53)) ?_
  refine t_fresh 34 [(⟨none,7,127,0⟩,_),(⟨none,11,131,0⟩,_)] [(127,.any),(131,.any)] [7,11] ⟨.one rfl rfl rfl (by decide) (f_call rfl rfl ca_75 (c_impl_LiveRows (mgC c p x) (mgP c p x) allR (by omega))),.one rfl rfl rfl (by decide) (f_call rfl rfl ca_75 (c_impl_LiveRows c p allR (by omega))),trivial⟩ ?_
  refine fk_cons ?_
  rintro r S ⟨rfl,rfl⟩
  refine fk_cons ?_
  rintro r S ⟨rfl,rfl⟩
  refine fk_nil ?_
  refine t_call 12 rfl rfl rfl rfl rfl ca_38 (c_laws_sameInts (liveL (mgC c p x) (mgP c p x) allR) (liveL c p allR)) ?_
  rintro r S ⟨rfl,rfl⟩
  refine tj_ 13 rfl (L_pick rfl rfl) ?_
  refine tj_ 14 rfl (L_move rfl) ?_
  refine T_split 134 (b:=_) rfl rfl (fun hg134=>?_) (fun hg134=>?_)
  ·refine tj_ 15 rfl (L_move rfl) ?_
   refine tl_ 16 rfl (L_load rfl (xb0 ty_49)) ?_
   refine tl_ 17 rfl (L_load rfl (xb0 ty_91)) ?_
   refine tl_ 18 rfl (L_load rfl (xb0 ty_53)) ?_
   refine t_call 19 rfl rfl rfl rfl rfl ca_75 (c_impl_LiveRows c p x (by omega)) ?_
   rintro r S ⟨rfl,rfl⟩
   refine t_call 20 rfl rfl rfl rfl rfl ca_38 (c_laws_sameInts (sfL c p x) (liveL c p x)) ?_
   rintro r S ⟨rfl,rfl⟩
   refine tj_ 21 rfl (L_pick rfl rfl) ?_
   refine tj_ 22 rfl (L_move rfl) ?_
   refine T_split 142 (b:=_) rfl rfl (fun hg142=>?_) (fun hg142=>?_)
   ·refine tj_ 23 rfl (L_move rfl) ?_
    refine tl_ 24 rfl (L_load rfl (xb0 ty_49)) ?_
    refine tl_ 25 rfl (L_load rfl (xb0 ty_53)) ?_
    refine t_call 26 rfl rfl rfl rfl rfl ca_45 (c_laws_rowsIn (mgC c p x) x k4) ?_
    rintro r S ⟨rfl,rfl⟩
    refine t_call 27 rfl rfl rfl rfl rfl ca_38 (c_laws_sameInts (sfL c p x) (riL (mgC c p x) x)) ?_
    rintro r S ⟨rfl,rfl⟩
    refine tj_ 28 rfl (L_pick rfl rfl) ?_
    refine tj_ 29 rfl (L_move rfl) ?_
    refine T_split 149 (b:=_) rfl rfl (fun hg149=>?_) (fun hg149=>?_)
    ·refine tl_ 30 rfl (L_load rfl (xb3 ty_49)) ?_
     refine tl_ 31 rfl (L_load rfl (xb0 ty_91)) ?_
     refine t_call 32 rfl rfl rfl rfl rfl ca_74 (c_impl_IsPending (sfC c p x) (mgP c p x) (by omega)) ?_
     rintro r S ⟨rfl,rfl⟩
     refine tj_ 33 rfl (L_pick rfl rfl) ?_
     refine tj_ 34 rfl (L_move rfl) ?_
     refine T_split 154 (b:=_) rfl rfl (fun hg154=>?_) (fun hg154=>?_)
     ·refine tl_ 35 rfl (L_load rfl (xb3 ty_49)) ?_
      refine tl_ 36 rfl (L_load rfl (xb0 ty_91)) ?_
      refine tl_ 37 rfl (L_load rfl (xb0 ty_53)) ?_
      refine tl_ 39 rfl (L_load rfl (xb0 ty_49)) ?_
      refine tl_ 40 rfl (L_load rfl (xb0 ty_91)) ?_
      refine tl_ 41 rfl (L_load rfl (xb0 ty_53)) ?_
      refine t_fresh 3 [(⟨none,38,158,0⟩,_),(⟨none,42,162,0⟩,_)] [(158,.any),(162,.any)] [38,42] ⟨.one rfl rfl rfl (by decide) (f_call rfl rfl ca_75 (c_impl_LiveRows (sfC c p x) (mgP c p x) allR (by omega))),.one rfl rfl rfl (by decide) (f_call rfl rfl ca_76 (c_spec_LiveRows c p allR (by omega))),trivial⟩ ?_
      refine fk_cons ?_
      rintro r S ⟨rfl,rfl⟩
      refine fk_cons ?_
      rintro r S ⟨rfl,rfl⟩
      refine fk_nil ?_
      refine t_call 43 rfl rfl rfl rfl rfl ca_38 (c_laws_sameInts (liveL (sfC c p x) (mgP c p x) allR) (liveL c p allR)) ?_
      rintro r S ⟨rfl,rfl⟩
      refine tj_ 44 rfl (L_pick rfl rfl) ?_
      refine tj_ 45 rfl (L_assign rfl) ?_
      refine T_done (by kernel_rfl) ?_
      refine E_ret ?_
      refine⟨_,[],rfl,rfl,bool_eq ?_,rfl⟩
      first
       | (simp;done)
       | (simp_all;done)
       | simp [k7]
     simp [k6] at hg154
    simp [k5] at hg149
   simp [k3] at hg142
  simp [k2] at hg134
 simp [k1] at hg123

end Go.Proofs.YtlodlnbhjghjoaaGreat.E
