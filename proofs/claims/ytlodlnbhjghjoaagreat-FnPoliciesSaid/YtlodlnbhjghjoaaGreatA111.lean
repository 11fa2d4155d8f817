/- Walks through functions, by program out of the session's annotations. -/
import Derived.Test.YtlodlnbhjghjoaaGreatA110
namespace Go.Proofs.YtlodlnbhjghjoaaGreat.E
open Go Go.RowKit Go.Proofs
set_option linter.unusedVariables false
set_option linter.unusedSimpArgs false

theorem g_tidy_A111_0 {P:Program} {N n:Nat} {s:Slots} {R:List Res} {Q:Exit→Slots→List Res→Prop} {c:Code} (keep:List Nat) {base:Slots} {R':List Res} (h:GCode P N n c base R' Q) (hb:keepOf s keep=base:=by simp only [E.keepOf,E.get,E.ev,E.cv,E.fill',E.fill,E.slotsOf,Res.sh,AC.sh,AC.sh.shs,AV.sh,E.splice,List.map_cons,List.map_nil,List.cons_append,List.nil_append,List.append_nil,List.length_cons,List.length_nil,List.take_zero,List.drop_zero,List.take_succ_cons,List.drop_succ_cons,List.drop_nil,List.take_nil,List.set_cons_zero,List.set_cons_succ,Nat.zero_add,Nat.add_zero,Nat.reduceAdd,Nat.reduceSub,reduceIte,Nat.reduceEqDiff,E.back,E.backR,E.ix,Res.un,AC.un,AC.un.uns,AV.un,E.un,Option.map_some,Option.map_none,Option.getD_some,List.getElem?_cons_zero,List.getElem?_cons_succ,List.getElem?_nil,crkR,crkO];rfl) (hR:R=R':=by (try simp only [E.keepOf,E.get,E.ev,E.cv,E.fill',E.fill,E.slotsOf,Res.sh,AC.sh,AC.sh.shs,AV.sh,E.splice,List.map_cons,List.map_nil,List.cons_append,List.nil_append,List.append_nil,List.length_cons,List.length_nil,List.take_zero,List.drop_zero,List.take_succ_cons,List.drop_succ_cons,List.drop_nil,List.take_nil,List.set_cons_zero,List.set_cons_succ,Nat.zero_add,Nat.add_zero,Nat.reduceAdd,Nat.reduceSub,reduceIte,Nat.reduceEqDiff,E.back,E.backR,E.ix,Res.un,AC.un,AC.un.uns,AV.un,E.un,Option.map_some,Option.map_none,Option.getD_some,List.getElem?_cons_zero,List.getElem?_cons_succ,List.getElem?_nil,crkR,crkO]);rfl):GCode P N n c s R Q:=G_tidy keep hb hR h

set_option maxRecDepth 20000 in
set_option maxHeartbeats 8000000 in
theorem c_impl_selecting (c : Crk) (s : Sett) (r : Int × Int) (hc : isCrk c = true) (hs : isSet s = true) (hr : isRng r = true) : EFn Tryz.prog 105 [.agg (crkO 0 c), .agg (setC s), .agg [.sc (.int .i64 r.1), .sc (.int .i64 r.2)], .c (.fn 106 [])] [.row 3 1 (ints c.vals), .row 3 1 (ints c.rows), .row 151 2 (pairs c.piv)] (fun y S => y = .tup [(true, crkO 3 (sw2 c s r).1), (true, setC (sw2 c s r).2.1), (false, [.sl 6 0 (swR (sw2 c s r).1 r).length (swR (sw2 c s r).1 r).length]), (false, [.sc (.int .i64 (totW (sw1 c s r).2.2 + totW (sw2 c s r).2.2))])] ∧ S = [.gone, .gone, .gone, .row 3 1 (ints (sw2 c s r).1.vals), .row 3 1 (ints (sw2 c s r).1.rows), .row 151 2 (pairs (sw2 c s r).1.piv), .row 3 1 (ints (swR (sw2 c s r).1 r))]) := by
 refine E_fn Tryz.func105 rfl (Nat.le_of_ble_eq_true rfl) ?_
 refine E_G (n:=3) rfl ?_
 obtain⟨b1,b2⟩:=rng_bnd hr
 have hok:=sw_ok hc hs hr
 have hcl:=crk_lens hc
 have hc1l:=crk_lens hok.c1
 have hc2l:=crk_lens hok.c2
 have ht1:=okL_tot hok.l1
 have ht2:=okL_tot hok.l2
 have hl1:=hok.l1.1
 have hl2:=hok.l2.1
 refine G_seq ?_
 refine G_region' (L:=[0,1,2,3,4,5,6]) rfl ?_
 refine x_box rfl rfl rfl rfl rfl ?_
 refine x_box rfl rfl rfl rfl rfl ?_
 refine x_box rfl rfl rfl rfl rfl ?_
 refine x_alloc rfl rfl rfl rfl za_49 ?_
 refine x_alloc rfl rfl rfl rfl za_30 ?_
 refine xas ?_
 refine xas ?_
 refine EOps_nil ?_
 refine G_seq ?_
 refine g_tidy_A111_0 [0,1,2,3,4,5,6,8,9,10,11] ?_
 refine G_region' (L:=[0,1,2,3,4,5,6,7,8,9,10,11,12]) rfl ?_
 refine x_light rfl rfl rfl (L_load rfl (xb0 ty_49)) ?_
 refine x_light rfl rfl rfl (L_load rfl (xb0 ty_30)) ?_
 refine x_pure rfl rfl rfl (l_field rfl fo_53_0) ?_
 refine x_light rfl rfl rfl (L_load rfl (xb0 ty_3)) ?_
 refine xmv ?_
 refine x_frame [0,1,2] rfl rfl rfl rfl rfl ca_121 rfl (c_impl_cracking c s r.1 hc hs b1) ?_
 rintro r S ⟨r0,S0,⟨rfl,rfl⟩,rfl,rfl⟩
 rw [show (withW 0 c s r.1 [])=sw1 c s r from rfl]
 refine xmv ?_
 refine x_pure rfl rfl rfl (L_extract rfl rfl) ?_
 refine x_pure rfl rfl rfl (L_extract rfl rfl) ?_
 refine x_pure rfl rfl rfl (L_extract rfl rfl) ?_
 refine EOps_go rfl rfl (EOp_store rfl rfl rfl (xb1 ty_49) ?_)
 refine EOps_go rfl rfl (EOp_store rfl rfl rfl (xb1 ty_30) ?_)
 refine xas ?_
 refine EOps_nil ?_
 refine G_seq ?_
 refine g_tidy_A111_0 [0,1,2,3,4,5,6,8,9,10,11,12] ?_
 refine G_region' (L:=[0,1,2,3,4,5,6,7,8,9,10,11,12]) rfl ?_
 refine x_light rfl rfl rfl (L_load rfl (xb0 ty_49)) ?_
 refine x_light rfl rfl rfl (L_load rfl (xb0 ty_30)) ?_
 refine x_pure rfl rfl rfl (l_field rfl fo_53_1) ?_
 refine x_light rfl rfl rfl (L_load rfl (xb0 ty_3)) ?_
 refine xmv ?_
 refine x_frame [8,9,10] rfl rfl rfl rfl rfl ca_121 rfl (c_impl_cracking (sw1 c s r).1 (sw1 c s r).2.1 r.2 hok.c1 hok.s1 b2) ?_
 rintro r S ⟨r0,S0,⟨rfl,rfl⟩,rfl,rfl⟩
 rw [show (withW 0 (sw1 c s r).1 (sw1 c s r).2.1 r.2 [])=sw2 c s r from rfl]
 refine xmv ?_
 refine x_pure rfl rfl rfl (L_extract rfl rfl) ?_
 refine x_pure rfl rfl rfl (L_extract rfl rfl) ?_
 refine x_pure rfl rfl rfl (L_extract rfl rfl) ?_
 refine EOps_go rfl rfl (EOp_store rfl rfl rfl (xb1 ty_49) ?_)
 refine EOps_go rfl rfl (EOp_store rfl rfl rfl (xb1 ty_30) ?_)
 refine xas ?_
 refine EOps_nil ?_
 refine G_seq ?_
 refine g_tidy_A111_0 [0,1,2,3,4,5,6,8,9,10,11,12,13] ?_
 refine G_region' (L:=[0,1,2,3,4,5,6,7,8]) rfl ?_
 refine x_light rfl rfl rfl (L_load rfl (xb0 ty_49)) ?_
 refine x_pure rfl rfl rfl (l_field rfl fo_53_0) ?_
 refine x_light rfl rfl rfl (L_load rfl (xb0 ty_3)) ?_
 refine x_call rfl rfl rfl rfl rfl ca_179 (c_impl_FindPivot (sw2 c s r).1 r.1 (by omega)) ?_
 rintro r S ⟨rfl,rfl⟩
 refine xmv ?_
 refine x_pure rfl rfl rfl (L_extract rfl rfl) ?_
 refine x_pure rfl rfl rfl (L_extract rfl rfl) ?_
 refine xas ?_
 refine xas ?_
 refine EOps_nil ?_
 refine G_seq ?_
 refine g_tidy_A111_0 [0,1,2,3,4,5,6,8,9,10,11,12,13,14] ?_
 refine G_region' (L:=[0,1,2,3,4,5,6,7,8]) rfl ?_
 refine x_light rfl rfl rfl (L_load rfl (xb0 ty_49)) ?_
 refine x_pure rfl rfl rfl (l_field rfl fo_53_1) ?_
 refine x_light rfl rfl rfl (L_load rfl (xb0 ty_3)) ?_
 refine x_call rfl rfl rfl rfl rfl ca_179 (c_impl_FindPivot (sw2 c s r).1 r.2 (by omega)) ?_
 rintro r S ⟨rfl,rfl⟩
 refine xmv ?_
 refine x_pure rfl rfl rfl (L_extract rfl rfl) ?_
 refine x_pure rfl rfl rfl (L_extract rfl rfl) ?_
 refine xas ?_
 refine xas ?_
 refine EOps_nil ?_
 refine G_seq ?_
 refine g_tidy_A111_0 [0,1,2,3,4,5,6,8,9,10,11,12,13,14,16] ?_
 refine G_drawD [3,4] mixed ?_
 refine d_pure' 3 rfl rfl rfl (L_move rfl) ?_
 refine d_pure' 4 rfl rfl rfl (L_move rfl) ?_
 refine d_pure' 6 rfl rfl rfl (L_move rfl) ?_
 refine d_pure' 7 rfl rfl rfl (L_move rfl) ?_
 refine d_pure' 8 rfl rfl rfl xb3 ?_
 refine d_load' 0 rfl rfl rfl rfl rfl (d_bp ty_49) ?_
 refine d_load' 1 rfl rfl rfl rfl rfl (d_bp ty_30) ?_
 refine d_load' 2 rfl rfl rfl rfl rfl (d_bp ty_49) ?_
 refine d_any 5 [] ⟨?_,trivial⟩
 refine d_call 5 rfl rfl rfl rfl rfl ca_180 (c_impl_RowsBetween (sw2 c s r).1 (fpAt (sw2 c s r).1.piv r.1) (fpAt (sw2 c s r).1.piv r.2) (by omega)) ?_
 rintro r S ⟨rfl,rfl⟩
 rw [show rowsB (sw2 c s r).1 (fpAt (sw2 c s r).1.piv r.1) (fpAt (sw2 c s r).1.piv r.2)=swR (sw2 c s r).1 r from rfl]
 refine d_any 9 [] ⟨?_,trivial⟩
 refine d_store' 9 rfl rfl rfl rfl rfl rfl (s_bp ty_49) ?_
 refine d_any 10 [] ⟨?_,trivial⟩
 refine d_store' 10 rfl rfl rfl rfl rfl rfl (s_bp ty_30) ?_
 refine d_pure' 11 rfl rfl rfl (L_assign rfl) ?_
 refine d_pure' 12 rfl rfl rfl (L_assign rfl) ?_
 refine D_done (by kernel_rfl) ?_
 refine G_ret ?_
 exact⟨_,[11,12,13,14],rfl,rfl,rfl,rfl⟩

set_option maxRecDepth 20000 in
set_option maxHeartbeats 8000000 in
theorem c_impl_SelectWith (c : Crk) (s : Sett) (r : Int × Int) (hb : c.vals.length ≤ 1048576 ∧ c.rows.length ≤ 1048576 ∧ c.piv.length ≤ 1048576) : EFn Tryz.prog 29 [.agg (crkC c), .agg (setC s), .agg [.sc (.int .i64 r.1), .sc (.int .i64 r.2)]] [] (fun y S => y = .tup [(true, crkO 0 (swC c s r)), (true, setC (swS c s r)), (false, [.sl 3 0 (swL c s r).length (swL c s r).length]), (false, [.sc (.int .i64 (swN c s r))])] ∧ S = crkR 3 151 (swC c s r) ++ [.row 3 1 (ints (swL c s r))]) := by
 refine E_fn Tryz.func29 rfl (Nat.le_of_ble_eq_true rfl) ?_
 refine E_G (n:=0) rfl ?_
 refine G_seq ?_
 refine G_region' (L:=[0,1,2,3,4,5,6]) rfl ?_
 refine x_box rfl rfl rfl rfl rfl ?_
 refine x_box rfl rfl rfl rfl rfl ?_
 refine x_box rfl rfl rfl rfl rfl ?_
 refine x_alloc rfl rfl rfl rfl za_49 ?_
 refine x_alloc rfl rfl rfl rfl za_30 ?_
 refine xas ?_
 refine xas ?_
 refine EOps_nil ?_
 refine G_seq ?_
 refine G_seq ?_
 refine g_tidy_A111_0 [0,1,2,3,4,5,6,7,8,9] ?_
 refine G_region' (L:=[0,1,2,3,4,5,6,7,8,9,10,11,12]) rfl ?_
 refine x_light rfl rfl rfl (L_load rfl (xb0 ty_49)) ?_
 refine x_call rfl rfl rfl rfl rfl ca_46 (c_impl_IsCracker c) ?_
 rintro r S ⟨rfl,rfl⟩
 refine x_pure rfl rfl rfl (L_not rfl rfl) ?_
 refine xmv ?_
 refine EOps_split 13 (b:=_) rfl (fun hg13=>?_) (fun hg13=>?_)
 ·refine x_skip rfl rfl rfl ?_
  refine x_skip rfl rfl rfl ?_
  refine x_skip rfl rfl rfl ?_
  refine x_pure rfl rfl rfl (L_pick rfl rfl) ?_
  refine xmv ?_
  refine x_skip rfl rfl rfl ?_
  refine x_skip rfl rfl rfl ?_
  refine x_skip rfl rfl rfl ?_
  refine x_pure rfl rfl rfl (L_pick rfl rfl) ?_
  refine EOps_nil ?_
  refine G_cond rfl (fun hc22=>?_) (fun hc22=>?_)
  ·have hk : swK c s r = false := by
    simp only [swK]
    simp_all
   have hcc:swC c s r=c∧swS c s r=s∧swL c s r=[]∧swN c s r=0:=by simp [swC,swS,swL,swN,hk]
   refine G_seq ?_
   refine g_tidy_A111_0 [0,1,2,3,4,5,6,7,8,9,22] ?_
   refine G_drawD [0,1] mixed ?_
   refine d_load' 0 rfl rfl rfl rfl rfl (d_bp ty_49) ?_
   refine d_load' 2 rfl rfl rfl rfl rfl (d_bp ty_30) ?_
   refine d_any 1 [] ⟨?_,trivial⟩
   refine d_call 1 rfl rfl rfl rfl rfl ca_104 (c_impl_copyCracker c hb) ?_
   rintro r S ⟨rfl,rfl⟩
   refine d_any 3 [] ⟨?_,trivial⟩
   refine d_store' 3 rfl rfl rfl rfl rfl rfl (s_bp ty_49) ?_
   refine d_any 4 [] ⟨?_,trivial⟩
   refine d_store' 4 rfl rfl rfl rfl rfl rfl (s_bp ty_30) ?_
   refine d_pure' 5 rfl rfl rfl (L_assign rfl) ?_
   refine d_pure' 6 rfl rfl rfl (L_assign rfl) ?_
   refine D_done (by kernel_rfl) ?_
   refine G_ghostS 8 3 1 rfl (by decide) ?_
   refine G_ret ?_
   rw [hcc.1,hcc.2.1,hcc.2.2.1,hcc.2.2.2]
   first
    | exact⟨_,[5,6,7,8],rfl,rfl,rfl,rfl⟩
    | exact⟨_,[8,9,10,11],rfl,rfl,rfl,rfl⟩
  ·exact Bool.noConfusion (hc22:true=false)
 ·refine x_light rfl rfl rfl (L_load rfl (xb2 ty_30)) ?_
  refine x_call rfl rfl rfl rfl rfl ca_47 (c_impl_IsSettings s) ?_
  rintro r S ⟨rfl,rfl⟩
  refine x_pure rfl rfl rfl (L_not rfl rfl) ?_
  refine x_pure rfl rfl rfl (L_pick rfl rfl) ?_
  refine xmv ?_
  refine EOps_split 18 (b:=_) rfl (fun hg18=>?_) (fun hg18=>?_)
  ·refine x_skip rfl rfl rfl ?_
   refine x_skip rfl rfl rfl ?_
   refine x_skip rfl rfl rfl ?_
   refine x_pure rfl rfl rfl (L_pick rfl rfl) ?_
   refine EOps_nil ?_
   refine G_cond rfl (fun hc22=>?_) (fun hc22=>?_)
   ·have hk : swK c s r = false := by
     simp only [swK]
     simp_all
    have hcc:swC c s r=c∧swS c s r=s∧swL c s r=[]∧swN c s r=0:=by simp [swC,swS,swL,swN,hk]
    refine G_seq ?_
    refine g_tidy_A111_0 [0,1,2,3,4,5,6,7,8,9,22] ?_
    refine G_drawD [0,1] mixed ?_
    refine d_load' 0 rfl rfl rfl rfl rfl (d_bp ty_49) ?_
    refine d_load' 2 rfl rfl rfl rfl rfl (d_bp ty_30) ?_
    refine d_any 1 [] ⟨?_,trivial⟩
    refine d_call 1 rfl rfl rfl rfl rfl ca_104 (c_impl_copyCracker c hb) ?_
    rintro r S ⟨rfl,rfl⟩
    refine d_any 3 [] ⟨?_,trivial⟩
    refine d_store' 3 rfl rfl rfl rfl rfl rfl (s_bp ty_49) ?_
    refine d_any 4 [] ⟨?_,trivial⟩
    refine d_store' 4 rfl rfl rfl rfl rfl rfl (s_bp ty_30) ?_
    refine d_pure' 5 rfl rfl rfl (L_assign rfl) ?_
    refine d_pure' 6 rfl rfl rfl (L_assign rfl) ?_
    refine D_done (by kernel_rfl) ?_
    refine G_ghostS 8 3 1 rfl (by decide) ?_
    refine G_ret ?_
    rw [hcc.1,hcc.2.1,hcc.2.2.1,hcc.2.2.2]
    first
     | exact⟨_,[5,6,7,8],rfl,rfl,rfl,rfl⟩
     | exact⟨_,[8,9,10,11],rfl,rfl,rfl,rfl⟩
   ·exact Bool.noConfusion (hc22:true=false)
  ·refine x_light rfl rfl rfl (L_load rfl (xb2 ty_53)) ?_
   refine x_call rfl rfl rfl rfl rfl ca_103 (c_impl_IsRange r) ?_
   rintro r S ⟨rfl,rfl⟩
   refine x_pure rfl rfl rfl (L_not rfl rfl) ?_
   refine x_pure rfl rfl rfl (L_pick rfl rfl) ?_
   refine EOps_nil ?_
   refine G_cond rfl (fun hc22=>?_) (fun hc22=>?_)
   ·have hk : swK c s r = false := by
     simp only [swK]
     simp_all
    have hcc:swC c s r=c∧swS c s r=s∧swL c s r=[]∧swN c s r=0:=by simp [swC,swS,swL,swN,hk]
    refine G_seq ?_
    refine g_tidy_A111_0 [0,1,2,3,4,5,6,7,8,9,22] ?_
    refine G_drawD [0,1] mixed ?_
    refine d_load' 0 rfl rfl rfl rfl rfl (d_bp ty_49) ?_
    refine d_load' 2 rfl rfl rfl rfl rfl (d_bp ty_30) ?_
    refine d_any 1 [] ⟨?_,trivial⟩
    refine d_call 1 rfl rfl rfl rfl rfl ca_104 (c_impl_copyCracker c hb) ?_
    rintro r S ⟨rfl,rfl⟩
    refine d_any 3 [] ⟨?_,trivial⟩
    refine d_store' 3 rfl rfl rfl rfl rfl rfl (s_bp ty_49) ?_
    refine d_any 4 [] ⟨?_,trivial⟩
    refine d_store' 4 rfl rfl rfl rfl rfl rfl (s_bp ty_30) ?_
    refine d_pure' 5 rfl rfl rfl (L_assign rfl) ?_
    refine d_pure' 6 rfl rfl rfl (L_assign rfl) ?_
    refine D_done (by kernel_rfl) ?_
    refine G_ghostS 8 3 1 rfl (by decide) ?_
    refine G_ret ?_
    rw [hcc.1,hcc.2.1,hcc.2.2.1,hcc.2.2.2]
    first
     | exact⟨_,[5,6,7,8],rfl,rfl,rfl,rfl⟩
     | exact⟨_,[8,9,10,11],rfl,rfl,rfl,rfl⟩
   ·have hk : swK c s r = true := by
     simp only [swK]
     simp_all
    have hcc:swC c s r=(sw2 c s r).1∧swS c s r=(sw2 c s r).2.1∧swL c s r=swR (sw2 c s r).1 r∧swN c s r=totW (sw1 c s r).2.2+totW (sw2 c s r).2.2:=by simp [swC,swS,swL,swN,hk]
    obtain⟨hc,hs,hr⟩:=swK_parts hk
    refine G_skip ?_
    refine G_seq ?_
    refine g_tidy_A111_0 [0,1,2,3,4,5,6,7,8,9,22] ?_
    refine G_drawD [0,1,2] mixed ?_
    refine d_load' 0 rfl rfl rfl rfl rfl (d_bp ty_49) ?_
    refine d_load' 2 rfl rfl rfl rfl rfl (d_bp ty_30) ?_
    refine d_load' 3 rfl rfl rfl rfl rfl (d_bp ty_53) ?_
    refine d_any 1 [] ⟨?_,trivial⟩
    refine d_call 1 rfl rfl rfl rfl rfl ca_104 (c_impl_copyCracker c hb) ?_
    rintro r S ⟨rfl,rfl⟩
    refine d_any 4 [] ⟨?_,trivial⟩
    refine d_frame 4 [5,6,7] rfl rfl rfl rfl rfl ca_105 rfl (c_impl_selecting c s r hc hs hr) ?_
    rintro r S ⟨r0,S0,⟨rfl,rfl⟩,rfl,rfl⟩
    refine d_pure' 5 rfl rfl rfl (L_extract rfl rfl) ?_
    refine d_pure' 6 rfl rfl rfl (L_extract rfl rfl) ?_
    refine d_pure' 7 rfl rfl rfl (L_extract rfl rfl) ?_
    refine d_pure' 8 rfl rfl rfl (L_extract rfl rfl) ?_
    refine d_any 9 [] ⟨?_,trivial⟩
    refine d_store' 9 rfl rfl rfl rfl rfl rfl (s_bp ty_49) ?_
    refine d_any 10 [] ⟨?_,trivial⟩
    refine d_store' 10 rfl rfl rfl rfl rfl rfl (s_bp ty_30) ?_
    refine d_pure' 11 rfl rfl rfl (L_assign rfl) ?_
    refine d_pure' 12 rfl rfl rfl (L_assign rfl) ?_
    refine D_done (by kernel_rfl) ?_
    refine G_ret ?_
    rw [hcc.1,hcc.2.1,hcc.2.2.1,hcc.2.2.2]
    first
     | exact⟨_,[5,6,7,8],rfl,rfl,rfl,rfl⟩
     | exact⟨_,[8,9,10,11],rfl,rfl,rfl,rfl⟩

end Go.Proofs.YtlodlnbhjghjoaaGreat.E
