/- Walks through functions, by program out of the session's annotations. -/
import Derived.Test.YtlodlnbhjghjoaaGreatA131
import Derived.Test.YtlodlnbhjghjoaaGreatA111
import Derived.Test.YtlodlnbhjghjoaaGreatA110
import Derived.Test.YtlodlnbhjghjoaaGreatA128
import Derived.Test.YtlodlnbhjghjoaaGreatA130
import Derived.Test.YtlodlnbhjghjoaaGreatA91
import Derived.Test.YtlodlnbhjghjoaaGreatA90
import Derived.Test.YtlodlnbhjghjoaaGreatA95
namespace Go.Proofs.YtlodlnbhjghjoaaGreat.E
open Go Go.RowKit Go.Proofs
set_option linter.unusedVariables false
set_option linter.unusedSimpArgs false

theorem goW_keep {q v u : Int} : ∀ (f : Nat) (c : Crk) (s : Sett) (l : List Qn), isPv c.piv u = true → isPv (goW q v f c s l).1.piv u = true
 | 0,_,_,_,h=>h
 | f + 1, c, s, l, h => by
  rw [goW]
  split
  ·exact h
  ·refine goW_keep f _ _ _ ?_
   unfold stepW
   exact crackC_keep (crackC_keep h)
theorem goW_perm {q v : Int} : ∀ (f : Nat) (c : Crk) (s : Sett) (l : List Qn), isCrk c = true → isSet s = true → (zpC (goW q v f c s l).1).Perm (zpC c)
 | 0,c,s,l,_,_=>List.Perm.refl _
 | f + 1, c, s, l, hc, hs => by
  rw [goW]
  split
  ·exact List.Perm.refl _
  ·rename_i h
   obtain⟨_,b1,b2,k1,k2,_⟩:=stepW_ok hc hs (by simpa using h)
   exact (goW_perm f _ _ _ k2 (setN_ok hs)).trans ((crack_perm k1 b2).trans (crack_perm hc b1))
theorem goW_set {q v : Int} : ∀ (f : Nat) (c : Crk) (s : Sett) (l : List Qn), (goW q v f c s l).2.1.pol = s.pol ∧ (goW q v f c s l).2.1.thr = s.thr
 | 0,c,s,l=>⟨rfl,rfl⟩
 | f + 1, c, s, l => by
  rw [goW]
  split
  ·exact⟨rfl,rfl⟩
  ·have h := goW_set (q := q) (v := v) f (stepW c s v) (setN s) (l ++ chgs q c (chW c s v) ++ chgs q (crackC c (chW c s v)).1 (chW c s v + 1))
   have e:(setN s).pol=s.pol∧(setN s).thr=s.thr:=by unfold setN;split<;>exact⟨rfl,rfl⟩
   exact⟨h.1.trans e.1,h.2.trans e.2⟩
structure PolOk (c : Crk) (s : Sett) (r : Int × Int) : Prop where
 ok:isCrk (swC c s r)=true
 st:isSet (swS c s r)=true
 rw:swL c s r=riL c r
 pol:(swS c s r).pol=s.pol
 thr:(swS c s r).thr=s.thr
 pr:prL (swC c s r)=prL c
theorem pol_ok {c : Crk} {s : Sett} {r : Int × Int} (hk : swK c s r = true) : PolOk c s r := by
 obtain⟨hc,hs,hr⟩:=swK_parts hk
 obtain⟨b1,b2⟩:=rng_bnd hr
 have hok:=sw_ok hc hs hr
 obtain⟨g1,g2⟩:=withW_ok (q:=0) b1 4000 c s [] hc hs
 obtain⟨g3,g4⟩:=withW_ok (q:=0) b2 4000 (sw1 c s r).1 (sw1 c s r).2.1 [] hok.c1 hok.s1
 have p1:isPv (sw1 c s r).1.piv r.1=true:=crackC_pv
 have p3:isPv (sw2 c s r).1.piv r.1=true:=crackC_keep (goW_keep _ _ _ _ p1)
 have p4:isPv (sw2 c s r).1.piv r.2=true:=crackC_pv
 have m1:(zpC (sw1 c s r).1).Perm (zpC c):=(crack_perm g1 b1).trans (goW_perm _ _ _ _ hc hs)
 have m2:(zpC (sw2 c s r).1).Perm (zpC (sw1 c s r).1):=(crack_perm g3 b2).trans (goW_perm _ _ _ _ hok.c1 hok.s1)
 have hpm:=m2.trans m1
 have hl:=crk_lens hok.c2
 have hcl:=crk_lens hc
 have t1:=goW_set (q:=0) (v:=r.1) 4000 c s []
 have t2:=goW_set (q:=0) (v:=r.2) 4000 (sw1 c s r).1 (sw1 c s r).2.1 []
 have hle : r.1 ≤ r.2 := by
  have:=hr
  simp only [isRng,Bool.and_eq_true,decide_eq_true_eq] at this
  omega
 have eC:swC c s r=(sw2 c s r).1:=by rw [swC,if_pos hk]
 have eS:swS c s r=(sw2 c s r).2.1:=by rw [swS,if_pos hk]
 have eL:swL c s r=swR (sw2 c s r).1 r:=by rw [swL,if_pos hk]
 refine⟨by rw [eC];exact hok.c2,by rw [eS];exact hok.s2,?_,by rw [eS];exact t2.1.trans t1.1,by rw [eS];exact t2.2.trans t1.2,by rw [eC];exact prL_of hl.2.1 hcl.2.1 hpm⟩
 rw [eL,swR,← riL_of (r:=r) hl.2.1 hcl.2.1 hpm]
 exact (riL_mid hok.c2 hr p3 p4 (fpAt_mono hok.c2 p3 p4 hle)).symm

theorem e_tidy_A127_0 {P:Program} {N:Nat} {s:Slots} {R:List Res} {Q:Exit→Slots→List Res→Prop} {c:Code} (keep:List Nat) {base:Slots} {R':List Res} (h:ECode P N c base R' Q) (hb:keepOf s keep=base:=by simp only [E.keepOf,E.get,E.ev,E.cv,E.fill',E.fill,E.slotsOf,Res.sh,AC.sh,AC.sh.shs,AV.sh,E.splice,List.map_cons,List.map_nil,List.cons_append,List.nil_append,List.append_nil,List.length_cons,List.length_nil,List.take_zero,List.drop_zero,List.take_succ_cons,List.drop_succ_cons,List.drop_nil,List.take_nil,List.set_cons_zero,List.set_cons_succ,Nat.zero_add,Nat.add_zero,Nat.reduceAdd,Nat.reduceSub,reduceIte,Nat.reduceEqDiff,E.back,E.backR,E.ix,Res.un,AC.un,AC.un.uns,AV.un,E.un,Option.map_some,Option.map_none,Option.getD_some,List.getElem?_cons_zero,List.getElem?_cons_succ,List.getElem?_nil,crkR,crkO];rfl) (hR:R=R':=by (try simp only [E.keepOf,E.get,E.ev,E.cv,E.fill',E.fill,E.slotsOf,Res.sh,AC.sh,AC.sh.shs,AV.sh,E.splice,List.map_cons,List.map_nil,List.cons_append,List.nil_append,List.append_nil,List.length_cons,List.length_nil,List.take_zero,List.drop_zero,List.take_succ_cons,List.drop_succ_cons,List.drop_nil,List.take_nil,List.set_cons_zero,List.set_cons_succ,Nat.zero_add,Nat.add_zero,Nat.reduceAdd,Nat.reduceSub,reduceIte,Nat.reduceEqDiff,E.back,E.backR,E.ix,Res.un,AC.un,AC.un.uns,AV.un,E.un,Option.map_some,Option.map_none,Option.getD_some,List.getElem?_cons_zero,List.getElem?_cons_succ,List.getElem?_nil,crkR,crkO]);rfl):ECode P N c s R Q:=E_tidy keep hb hR h

set_option maxRecDepth 20000 in
set_option maxHeartbeats 8000000 in
theorem c_laws_FnPolicies (l : List Int) (hb0 : ∀ x ∈ l, 0 ≤ x ∧ x ≤ 255) : EFn Tryz.prog 5 [.c (.ro (bytes l))] [] (fun r S => r = .c (.sc (.bool true)) ∧ S = []) := by
 refine E_fn Tryz.func5 rfl (Nat.le_of_ble_eq_true rfl) ?_
 refine E_seq ?_
 refine E_region' (L:=[0]) rfl ?_
 refine xas ?_
 refine EOps_nil ?_
 refine E_seq ?_
 refine E_seq ?_
 refine e_tidy_A127_0 [0,2] ?_
 refine E_region' (L:=[0,1]) rfl ?_
 refine xmv ?_
 refine x_call rfl rfl rfl rfl rfl ca_35 (c_laws_big l) ?_
 rintro r S ⟨rfl,rfl⟩
 refine EOps_nil ?_
 refine E_cond rfl (fun hc24=>?_) (fun hc24=>?_)
 ·refine E_seq ?_
  refine E_region' (L:=[0]) rfl ?_
  refine xas ?_
  refine EOps_nil ?_
  refine E_ret ?_
  exact⟨_,[],rfl,rfl,rfl,rfl⟩
 ·have hb : byL l := ⟨hb0, by simp at hc24; omega⟩
  refine E_skip ?_
  refine E_seq ?_
  refine e_tidy_A127_0 [0,2,24] ?_
  refine E_region' (L:=[0,1,2,3,4,5,6,7,8,9,10,11]) rfl ?_
  refine xmv ?_
  refine x_call rfl rfl rfl rfl rfl ca_36 (c_spec_DrawSelectWith l hb) ?_ (hq:=by rintro r S ⟨_,_,_,⟨rfl,rfl⟩,_,_,_⟩;exact⟨rfl,rfl⟩)
  rintro r S ⟨c,s,x,⟨rfl,rfl⟩,hcv,hcr,hcp⟩
  have hcb:c.vals.length≤1048576∧c.rows.length≤1048576∧c.piv.length≤1048576:=by omega
  have hle:=(sw_le (c:=c) (s:=s) (r:=x) hcb).1
  refine xmv ?_
  refine x_pure rfl rfl rfl (L_extract rfl rfl) ?_
  refine x_pure rfl rfl rfl (L_extract rfl rfl) ?_
  refine x_pure rfl rfl rfl (L_extract rfl rfl) ?_
  refine x_alloc rfl rfl rfl rfl za_49 ?_
  refine x_alloc rfl rfl rfl rfl za_30 ?_
  refine x_alloc rfl rfl rfl rfl za_53 ?_
  refine EOps_go rfl rfl (EOp_store rfl rfl rfl (xb1 ty_49) ?_)
  refine EOps_go rfl rfl (EOp_store rfl rfl rfl (xb1 ty_30) ?_)
  refine EOps_go rfl rfl (EOp_store rfl rfl rfl (xb1 ty_53) ?_)
  refine EOps_nil ?_
  refine E_seq ?_
  refine e_tidy_A127_0 [0,2,3,4,5,24] ?_
  refine E_region' (L:=[0,1,2,3,4,5,6,7,8,9,10,11,12,13,14]) rfl ?_
  refine x_light rfl rfl rfl (L_load rfl (xb0 ty_49)) ?_
  refine x_light rfl rfl rfl (L_load rfl (xb0 ty_30)) ?_
  refine x_light rfl rfl rfl (L_load rfl (xb0 ty_53)) ?_
  refine x_call rfl rfl rfl rfl rfl ca_29 (c_impl_SelectWith c s x hcb) ?_
  rintro r S ⟨rfl,rfl⟩
  refine xmv ?_
  refine x_pure rfl rfl rfl (L_extract rfl rfl) ?_
  refine x_pure rfl rfl rfl (L_extract rfl rfl) ?_
  refine x_pure rfl rfl rfl (L_extract rfl rfl) ?_
  refine x_pure rfl rfl rfl (L_extract rfl rfl) ?_
  refine x_alloc rfl rfl rfl rfl za_49 ?_
  refine x_alloc rfl rfl rfl rfl za_30 ?_
  refine EOps_go rfl rfl (EOp_store rfl rfl rfl (xb1 ty_49) ?_)
  refine EOps_go rfl rfl (EOp_store rfl rfl rfl (xb1 ty_30) ?_)
  refine xas ?_
  refine xas ?_
  refine EOps_nil ?_
  refine E_seq ?_
  refine e_tidy_A127_0 [0,2,3,4,5,6,7,8,9,24] ?_
  refine E_region' (L:=[0,1,2,3,4,5,6,7,8,9,10,11,12,13,14]) rfl ?_
  refine x_light rfl rfl rfl (L_load rfl (xb0 ty_49)) ?_
  refine x_light rfl rfl rfl (L_load rfl (xb0 ty_30)) ?_
  refine x_light rfl rfl rfl (L_load rfl (xb0 ty_53)) ?_
  refine x_call rfl rfl rfl rfl rfl ca_26 (c_spec_SelectWith c s x hcb) ?_
  rintro r S ⟨rfl,rfl⟩
  refine xmv ?_
  refine x_pure rfl rfl rfl (L_extract rfl rfl) ?_
  refine x_pure rfl rfl rfl (L_extract rfl rfl) ?_
  refine x_pure rfl rfl rfl (L_extract rfl rfl) ?_
  refine x_pure rfl rfl rfl (L_extract rfl rfl) ?_
  refine x_alloc rfl rfl rfl rfl za_49 ?_
  refine x_alloc rfl rfl rfl rfl za_30 ?_
  refine EOps_go rfl rfl (EOp_store rfl rfl rfl (xb1 ty_49) ?_)
  refine EOps_go rfl rfl (EOp_store rfl rfl rfl (xb1 ty_30) ?_)
  refine xas ?_
  refine xas ?_
  refine EOps_nil ?_
  refine E_seq ?_
  refine E_seq ?_
  refine e_tidy_A127_0 [0,2,3,4,5,6,7,8,9,10,11,12,13,24] ?_
  refine E_region' (L:=[0,1,2,3,4,5,6,7,8,9,10,11,12,13,14,15,16,17,18,19]) rfl ?_
  refine x_light rfl rfl rfl (L_load rfl (xb0 ty_49)) ?_
  refine x_light rfl rfl rfl (L_load rfl (xb0 ty_49)) ?_
  refine x_call rfl rfl rfl rfl rfl ca_37 (c_spec_EqualCrackers (swC c s x) (swC c s x)) ?_
  rintro r S ⟨rfl,rfl⟩
  refine x_pure rfl rfl rfl (L_not rfl rfl) ?_
  refine xmv ?_
  refine EOps_split 53 (b:=_) rfl (fun hg53=>?_) (fun hg53=>?_)
  ·simp at hg53
  ·refine x_light rfl rfl rfl (L_load rfl (xb2 ty_30)) ?_
   refine x_light rfl rfl rfl (L_load rfl (xb0 ty_30)) ?_
   refine x_pure rfl rfl rfl (L_binA rfl se_30 fd_30 rfl rfl rfl rfl ⟨rfl,rfl⟩ rfl) ?_
   refine x_pure rfl rfl rfl (L_pick rfl rfl) ?_
   refine xmv ?_
   refine EOps_split 58 (b:=_) rfl (fun hg58=>?_) (fun hg58=>?_)
   ·simp at hg58
   ·refine xmv ?_
    refine xmv ?_
    refine x_call rfl rfl rfl rfl rfl ca_38 (c_laws_sameInts (swL c s x) (swL c s x)) ?_
    rintro r S ⟨rfl,rfl⟩
    refine x_pure rfl rfl rfl (L_not rfl rfl) ?_
    refine x_pure rfl rfl rfl (L_pick rfl rfl) ?_
    refine xmv ?_
    refine EOps_split 64 (b:=_) rfl (fun hg64=>?_) (fun hg64=>?_)
    ·simp at hg64
    ·refine xmv ?_
     refine xmv ?_
     refine x_pure rfl rfl rfl (L_bin rfl rfl rfl rfl) ?_
     refine x_pure rfl rfl rfl (L_pick rfl rfl) ?_
     refine EOps_nil ?_
     refine E_cond rfl (fun hc68=>?_) (fun hc68=>?_)
     ·simp at hc68
     ·refine E_skip ?_
      refine E_seq ?_
      refine E_seq ?_
      refine e_tidy_A127_0 [0,2,3,4,5,6,7,8,9,10,11,12,13,24,68] ?_
      refine E_region' (L:=[0,1,2,3,4,5,6,7,8,9,10,11,12]) rfl ?_
      refine x_light rfl rfl rfl (L_load rfl (xb0 ty_49)) ?_
      refine x_call rfl rfl rfl rfl rfl ca_39 (c_spec_IsCracker c) ?_
      rintro r S ⟨rfl,rfl⟩
      refine x_pure rfl rfl rfl (L_not rfl rfl) ?_
      refine xmv ?_
      refine EOps_split 72 (b:=_) rfl (fun hg72=>?_) (fun hg72=>?_)
      ·refine x_skip rfl rfl rfl ?_
       refine x_skip rfl rfl rfl ?_
       refine x_skip rfl rfl rfl ?_
       refine x_pure rfl rfl rfl (L_pick rfl rfl) ?_
       refine xmv ?_
       refine x_skip rfl rfl rfl ?_
       refine x_skip rfl rfl rfl ?_
       refine x_skip rfl rfl rfl ?_
       refine x_pure rfl rfl rfl (L_pick rfl rfl) ?_
       refine EOps_nil ?_
       refine E_cond rfl (fun hc81=>?_) (fun hc81=>?_)
       ·have hk : swK c s x = false := by
         simp only [swK]
         simp_all
        have hcc:swC c s x=c∧swS c s x=s∧swL c s x=[]:=by simp [swC,swS,swL,hk]
        rw [hcc.1,hcc.2.1,hcc.2.2]
        refine E_seq ?_
        refine e_tidy_A127_0 [0,2,3,4,5,6,7,8,9,10,11,12,13,24,68,81] ?_
        refine E_region' (L:=[0,1,2,3,4,5,6,7,8,9,10,11,12,13]) rfl ?_
        refine x_light rfl rfl rfl (L_load rfl (xb0 ty_49)) ?_
        refine x_light rfl rfl rfl (L_load rfl (xb0 ty_49)) ?_
        refine x_call rfl rfl rfl rfl rfl ca_37 (c_spec_EqualCrackers c c) ?_
        rintro r S ⟨rfl,rfl⟩
        refine xmv ?_
        refine EOps_split 85 (b:=_) rfl (fun hg85=>?_) (fun hg85=>?_)
        ·refine x_light rfl rfl rfl (L_load rfl (xb2 ty_30)) ?_
         refine x_light rfl rfl rfl (L_load rfl (xb0 ty_30)) ?_
         refine x_pure rfl rfl rfl (L_binA rfl se_30 fd_30 rfl rfl rfl rfl ⟨rfl,rfl⟩ rfl) ?_
         refine x_pure rfl rfl rfl (L_pick rfl rfl) ?_
         refine xmv ?_
         refine EOps_split 90 (b:=_) rfl (fun hg90=>?_) (fun hg90=>?_)
         ·refine xmv ?_
          refine x_pure rfl rfl rfl (l_len rfl sl_22) ?_
          refine x_pure rfl rfl rfl (L_bin rfl rfl rfl rfl) ?_
          refine x_pure rfl rfl rfl (L_pick rfl rfl) ?_
          refine xas ?_
          refine EOps_nil ?_
          refine E_ret ?_
          refine⟨_,[],rfl,rfl,bool_eq ?_,rfl⟩
          simp
         ·simp at hg90
        ·simp at hg85
       ·exact Bool.noConfusion (hc81:true=false)
      ·refine x_light rfl rfl rfl (L_load rfl (xb2 ty_30)) ?_
       refine x_call rfl rfl rfl rfl rfl ca_40 (c_spec_IsSettings s) ?_
       rintro r S ⟨rfl,rfl⟩
       refine x_pure rfl rfl rfl (L_not rfl rfl) ?_
       refine x_pure rfl rfl rfl (L_pick rfl rfl) ?_
       refine xmv ?_
       refine EOps_split 77 (b:=_) rfl (fun hg77=>?_) (fun hg77=>?_)
       ·refine x_skip rfl rfl rfl ?_
        refine x_skip rfl rfl rfl ?_
        refine x_skip rfl rfl rfl ?_
        refine x_pure rfl rfl rfl (L_pick rfl rfl) ?_
        refine EOps_nil ?_
        refine E_cond rfl (fun hc81=>?_) (fun hc81=>?_)
        ·have hk : swK c s x = false := by
          simp only [swK]
          simp_all
         have hcc:swC c s x=c∧swS c s x=s∧swL c s x=[]:=by simp [swC,swS,swL,hk]
         rw [hcc.1,hcc.2.1,hcc.2.2]
         refine E_seq ?_
         refine e_tidy_A127_0 [0,2,3,4,5,6,7,8,9,10,11,12,13,24,68,81] ?_
         refine E_region' (L:=[0,1,2,3,4,5,6,7,8,9,10,11,12,13]) rfl ?_
         refine x_light rfl rfl rfl (L_load rfl (xb0 ty_49)) ?_
         refine x_light rfl rfl rfl (L_load rfl (xb0 ty_49)) ?_
         refine x_call rfl rfl rfl rfl rfl ca_37 (c_spec_EqualCrackers c c) ?_
         rintro r S ⟨rfl,rfl⟩
         refine xmv ?_
         refine EOps_split 85 (b:=_) rfl (fun hg85=>?_) (fun hg85=>?_)
         ·refine x_light rfl rfl rfl (L_load rfl (xb2 ty_30)) ?_
          refine x_light rfl rfl rfl (L_load rfl (xb0 ty_30)) ?_
          refine x_pure rfl rfl rfl (L_binA rfl se_30 fd_30 rfl rfl rfl rfl ⟨rfl,rfl⟩ rfl) ?_
          refine x_pure rfl rfl rfl (L_pick rfl rfl) ?_
          refine xmv ?_
          refine EOps_split 90 (b:=_) rfl (fun hg90=>?_) (fun hg90=>?_)
          ·refine xmv ?_
           refine x_pure rfl rfl rfl (l_len rfl sl_22) ?_
           refine x_pure rfl rfl rfl (L_bin rfl rfl rfl rfl) ?_
           refine x_pure rfl rfl rfl (L_pick rfl rfl) ?_
           refine xas ?_
           refine EOps_nil ?_
           refine E_ret ?_
           refine⟨_,[],rfl,rfl,bool_eq ?_,rfl⟩
           simp
          ·simp at hg90
         ·simp at hg85
        ·exact Bool.noConfusion (hc81:true=false)
       ·refine x_light rfl rfl rfl (L_load rfl (xb2 ty_53)) ?_
        refine x_call rfl rfl rfl rfl rfl ca_41 (c_spec_IsRange x) ?_
        rintro r S ⟨rfl,rfl⟩
        refine x_pure rfl rfl rfl (L_not rfl rfl) ?_
        refine x_pure rfl rfl rfl (L_pick rfl rfl) ?_
        refine EOps_nil ?_
        refine E_cond rfl (fun hc81=>?_) (fun hc81=>?_)
        ·have hk : swK c s x = false := by
          simp only [swK]
          simp_all
         have hcc:swC c s x=c∧swS c s x=s∧swL c s x=[]:=by simp [swC,swS,swL,hk]
         rw [hcc.1,hcc.2.1,hcc.2.2]
         refine E_seq ?_
         refine e_tidy_A127_0 [0,2,3,4,5,6,7,8,9,10,11,12,13,24,68,81] ?_
         refine E_region' (L:=[0,1,2,3,4,5,6,7,8,9,10,11,12,13]) rfl ?_
         refine x_light rfl rfl rfl (L_load rfl (xb0 ty_49)) ?_
         refine x_light rfl rfl rfl (L_load rfl (xb0 ty_49)) ?_
         refine x_call rfl rfl rfl rfl rfl ca_37 (c_spec_EqualCrackers c c) ?_
         rintro r S ⟨rfl,rfl⟩
         refine xmv ?_
         refine EOps_split 85 (b:=_) rfl (fun hg85=>?_) (fun hg85=>?_)
         ·refine x_light rfl rfl rfl (L_load rfl (xb2 ty_30)) ?_
          refine x_light rfl rfl rfl (L_load rfl (xb0 ty_30)) ?_
          refine x_pure rfl rfl rfl (L_binA rfl se_30 fd_30 rfl rfl rfl rfl ⟨rfl,rfl⟩ rfl) ?_
          refine x_pure rfl rfl rfl (L_pick rfl rfl) ?_
          refine xmv ?_
          refine EOps_split 90 (b:=_) rfl (fun hg90=>?_) (fun hg90=>?_)
          ·refine xmv ?_
           refine x_pure rfl rfl rfl (l_len rfl sl_22) ?_
           refine x_pure rfl rfl rfl (L_bin rfl rfl rfl rfl) ?_
           refine x_pure rfl rfl rfl (L_pick rfl rfl) ?_
           refine xas ?_
           refine EOps_nil ?_
           refine E_ret ?_
           refine⟨_,[],rfl,rfl,bool_eq ?_,rfl⟩
           simp
          ·simp at hg90
         ·simp at hg85
        ·have hk : swK c s x = true := by
          simp only [swK]
          simp_all
         have hcc:=swK_parts hk
         obtain⟨k1,k2,k3,k4,k5,k6⟩:=pol_ok hk
         refine E_skip ?_
         refine E_seq ?_
         refine e_tidy_A127_0 [0,2,3,4,5,6,7,8,9,10,11,12,13,24,68,81] ?_
         refine E_region' (L:=[0,1,2,3,4,5,6,7,8,9,10]) rfl ?_
         refine xmv ?_
         refine x_call rfl rfl rfl rfl rfl ca_42 (c_spec_DrawCrackWith l hb) ?_ (hq:=by rintro r S ⟨_,_,_,⟨rfl,rfl⟩,_,_,_⟩;exact⟨rfl,rfl⟩)
         rintro r S ⟨d,s2,v,⟨rfl,rfl⟩,hdv,hdr,hdp⟩
         have hdb:d.vals.length≤1048576∧d.rows.length≤1048576∧d.piv.length≤1048576:=by omega
         refine xmv ?_
         refine x_pure rfl rfl rfl (L_extract rfl rfl) ?_
         refine x_pure rfl rfl rfl (L_extract rfl rfl) ?_
         refine x_pure rfl rfl rfl (L_extract rfl rfl) ?_
         refine x_alloc rfl rfl rfl rfl za_49 ?_
         refine x_alloc rfl rfl rfl rfl za_30 ?_
         refine EOps_go rfl rfl (EOp_store rfl rfl rfl (xb1 ty_49) ?_)
         refine EOps_go rfl rfl (EOp_store rfl rfl rfl (xb1 ty_30) ?_)
         refine xas ?_
         refine EOps_nil ?_
         refine E_seq ?_
         refine e_tidy_A127_0 [0,2,3,4,5,6,7,8,9,10,11,12,13,14,15,16,24,68,81] ?_
         refine E_region' (L:=[0,1,2,3,4,5,6,7,8,9,10,11,12]) rfl ?_
         refine x_light rfl rfl rfl (L_load rfl (xb0 ty_49)) ?_
         refine x_light rfl rfl rfl (L_load rfl (xb0 ty_30)) ?_
         refine xmv ?_
         refine x_call rfl rfl rfl rfl rfl ca_43 (c_impl_CrackWith d s2 v hdb) ?_
         rintro r S ⟨rfl,rfl⟩
         refine xmv ?_
         refine x_pure rfl rfl rfl (L_extract rfl rfl) ?_
         refine x_pure rfl rfl rfl (L_extract rfl rfl) ?_
         refine x_pure rfl rfl rfl (L_extract rfl rfl) ?_
         refine x_alloc rfl rfl rfl rfl za_49 ?_
         refine x_alloc rfl rfl rfl rfl za_30 ?_
         refine EOps_go rfl rfl (EOp_store rfl rfl rfl (xb1 ty_49) ?_)
         refine EOps_go rfl rfl (EOp_store rfl rfl rfl (xb1 ty_30) ?_)
         refine xas ?_
         refine EOps_nil ?_
         refine E_seq ?_
         refine e_tidy_A127_0 [0,2,3,4,5,6,7,8,9,10,11,12,13,14,15,16,17,19,24,68,81] ?_
         refine E_region' (L:=[0,1,2,3,4,5,6,7,8,9,10,11,12]) rfl ?_
         refine x_light rfl rfl rfl (L_load rfl (xb0 ty_49)) ?_
         refine x_light rfl rfl rfl (L_load rfl (xb0 ty_30)) ?_
         refine xmv ?_
         refine x_call rfl rfl rfl rfl rfl ca_44 (c_spec_CrackWith d s2 v hdb) ?_
         rintro r S ⟨rfl,rfl⟩
         refine xmv ?_
         refine x_pure rfl rfl rfl (L_extract rfl rfl) ?_
         refine x_pure rfl rfl rfl (L_extract rfl rfl) ?_
         refine x_pure rfl rfl rfl (L_extract rfl rfl) ?_
         refine x_alloc rfl rfl rfl rfl za_49 ?_
         refine x_alloc rfl rfl rfl rfl za_30 ?_
         refine EOps_go rfl rfl (EOp_store rfl rfl rfl (xb1 ty_49) ?_)
         refine EOps_go rfl rfl (EOp_store rfl rfl rfl (xb1 ty_30) ?_)
         refine xas ?_
         refine EOps_nil ?_
         refine E_seq ?_
         refine e_tidy_A127_0 [0,2,3,4,5,6,7,8,9,10,11,12,13,14,15,16,17,19,20,22,24,68,81] ?_
         refine E_drawT mixed ?_
         refine t_old 0 rfl rfl rfl (L_move rfl) ?_
         refine t_light 1 rfl rfl rfl (L_load rfl (xb0 ty_49)) ?_
         refine t_light 2 rfl rfl rfl (L_load rfl (xb0 ty_53)) ?_
         refine t_call 3 rfl rfl rfl rfl rfl ca_45 (c_laws_rowsIn c x hcc.1) ?_
         rintro r S ⟨rfl,rfl⟩
         refine t_call 4 rfl rfl rfl rfl rfl ca_38 (c_laws_sameInts (swL c s x) (riL c x)) ?_
         rintro r S ⟨rfl,rfl⟩
         refine t_old 5 rfl rfl rfl (L_move rfl) ?_
         refine T_split 122 (b:=_) rfl rfl (fun hg122=>?_) (fun hg122=>?_)
         ·refine t_light 6 rfl rfl rfl (L_load rfl (xb2 ty_49)) ?_
          refine t_call 7 rfl rfl rfl rfl rfl ca_46 (c_impl_IsCracker (swC c s x)) ?_
          rintro r S ⟨rfl,rfl⟩
          refine t_old 8 rfl rfl rfl (L_pick rfl rfl) ?_
          refine t_old 9 rfl rfl rfl (L_move rfl) ?_
          refine T_split 126 (b:=_) rfl rfl (fun hg126=>?_) (fun hg126=>?_)
          ·refine t_light 10 rfl rfl rfl (L_load rfl (xb2 ty_30)) ?_
           refine t_call 11 rfl rfl rfl rfl rfl ca_47 (c_impl_IsSettings (swS c s x)) ?_
           rintro r S ⟨rfl,rfl⟩
           refine t_old 12 rfl rfl rfl (L_pick rfl rfl) ?_
           refine t_old 13 rfl rfl rfl (L_move rfl) ?_
           refine T_split 130 (b:=_) rfl rfl (fun hg130=>?_) (fun hg130=>?_)
           ·refine t_old 14 rfl rfl rfl (l_field rfl fo_30_0) ?_
            refine t_light 15 rfl rfl rfl (L_load rfl (xb0 ty_3)) ?_
            refine t_old 16 rfl rfl rfl (l_field rfl fo_30_0) ?_
            refine t_light 17 rfl rfl rfl (L_load rfl (xb0 ty_3)) ?_
            refine t_old 18 rfl rfl rfl (L_bin rfl rfl rfl rfl) ?_
            refine t_old 19 rfl rfl rfl (L_pick rfl rfl) ?_
            refine t_old 20 rfl rfl rfl (L_move rfl) ?_
            refine T_split 137 (b:=_) rfl rfl (fun hg137=>?_) (fun hg137=>?_)
            ·refine t_old 21 rfl rfl rfl (l_field rfl fo_30_1) ?_
             refine t_light 22 rfl rfl rfl (L_load rfl (xb0 ty_3)) ?_
             refine t_old 23 rfl rfl rfl (l_field rfl fo_30_1) ?_
             refine t_light 24 rfl rfl rfl (L_load rfl (xb0 ty_3)) ?_
             refine t_old 25 rfl rfl rfl (L_bin rfl rfl rfl rfl) ?_
             refine t_old 26 rfl rfl rfl (L_pick rfl rfl) ?_
             refine t_old 27 rfl rfl rfl (L_move rfl) ?_
             refine T_split 144 (b:=_) rfl rfl (fun hg144=>?_) (fun hg144=>?_)
             ·refine t_light 28 rfl rfl rfl (L_load rfl (xb2 ty_49)) ?_
              refine t_light 30 rfl rfl rfl (L_load rfl (xb0 ty_49)) ?_
              refine t_fresh 13 [(⟨none,29,146,0⟩,_),(⟨none,31,148,0⟩,_)] [(146,.any),(148,.any)] [29,31] ⟨.one rfl rfl rfl (by decide) (f_call rfl rfl ca_48 (c_laws_pairsOf (swC c s x) k1)),.one rfl rfl rfl (by decide) (f_call rfl rfl ca_48 (c_laws_pairsOf c hcc.1)),trivial⟩ ?_
              refine fk_cons ?_
              rintro r S ⟨rfl,rfl⟩
              refine fk_cons ?_
              rintro r S ⟨rfl,rfl⟩
              refine fk_nil ?_
              refine t_call 32 rfl rfl rfl rfl rfl ca_38 (c_laws_sameInts (prL (swC c s x)) (prL c)) ?_
              rintro r S ⟨rfl,rfl⟩
              refine t_old 33 rfl rfl rfl (L_pick rfl rfl) ?_
              refine t_old 34 rfl rfl rfl (L_move rfl) ?_
              refine T_split 151 (b:=_) rfl rfl (fun hg151=>?_) (fun hg151=>?_)
              ·refine t_old 35 rfl rfl rfl (L_move rfl) ?_
               refine t_old 36 rfl rfl rfl (L_move rfl) ?_
               refine t_old 37 rfl rfl rfl (L_bin rfl rfl rfl rfl) ?_
               refine t_old 38 rfl rfl rfl (L_pick rfl rfl) ?_
               refine t_old 39 rfl rfl rfl (L_move rfl) ?_
               refine T_split 156 (b:=_) rfl rfl (fun hg156=>?_) (fun hg156=>?_)
               ·refine t_light 40 rfl rfl rfl (L_load rfl (xb2 ty_49)) ?_
                refine t_light 41 rfl rfl rfl (L_load rfl (xb0 ty_49)) ?_
                refine t_call 42 rfl rfl rfl rfl rfl ca_37 (c_spec_EqualCrackers (cwC d s2 v) (cwC d s2 v)) ?_
                rintro r S ⟨rfl,rfl⟩
                refine t_old 43 rfl rfl rfl (L_pick rfl rfl) ?_
                refine t_old 44 rfl rfl rfl (L_assign rfl) ?_
                refine T_done (by kernel_rfl) ?_
                refine E_ret ?_
                refine⟨_,[],rfl,rfl,bool_eq ?_,rfl⟩
                simp
               ·simp at hg156
              ·simp [k6] at hg151
             ·simp [k5] at hg144
            ·simp [k4] at hg137
           ·simp [k2] at hg130
          ·simp [k1] at hg126
         ·simp [k3] at hg122

end Go.Proofs.YtlodlnbhjghjoaaGreat.E
