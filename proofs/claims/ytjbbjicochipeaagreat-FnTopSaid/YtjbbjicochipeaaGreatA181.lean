/- Walks through functions, by program out of the session's annotations. -/
import Derived.Test.YtjbbjicochipeaaGreatA182
namespace Go.Proofs.YtjbbjicochipeaaGreat.E
open Go Go.RowKit Go.Proofs
set_option linter.unusedVariables false
set_option linter.unusedSimpArgs false

def lw1 (q:Int) (c:Crk) (s:Sett) (r:Int × Int) (l:List Qn):Crk × Sett × List Qn:=withW q c s r.1 l
def lw2 (q:Int) (c:Crk) (s:Sett) (r:Int × Int) (l:List Qn):Crk × Sett × List Qn:=withW q (lw1 q c s r l).1 (lw1 q c s r l).2.1 r.2 (lw1 q c s r l).2.2
structure LwOk (q : Int) (c : Crk) (s : Sett) (r : Int × Int) (l : List Qn) (n : Nat) : Prop where
 c1:isCrk (lw1 q c s r l).1=true
 s1:isSet (lw1 q c s r l).2.1=true
 c2:isCrk (lw2 q c s r l).1=true
 s2:isSet (lw2 q c s r l).2.1=true
 l1:okL (lw1 q c s r l).2.2 (n+8001)
 l2:okL (lw2 q c s r l).2.2 (n+8001+8001)
theorem lw_ok {q : Int} {c : Crk} {s : Sett} {r : Int × Int} {l : List Qn} {n : Nat} (hc : isCrk c = true) (hs : isSet s = true) (hr : isRng r = true) (hl : okL l n) : LwOk q c s r l n := by
 obtain⟨b1,b2⟩:=rng_bnd hr
 obtain⟨h1,h2⟩:=with_ok (q:=q) (l:=l) b1 hc hs
 have h5:=withL_ok (q:=q) b1 hc hs hl
 obtain⟨h3,h4⟩:=with_ok (q:=q) (l:=(lw1 q c s r l).2.2) b2 h1 h2
 exact⟨h1,h2,h3,h4,h5,withL_ok b2 h1 h2 h5⟩

set_option maxRecDepth 20000 in
set_option maxHeartbeats 2000000 in
theorem c_impl_LedgerOf_1 (q a b c d : Int) (l : List Qn) (hl : l.length ≤ 1000000) : EFn Tryz.prog 44 [.c (.sc (.int .i64 q)), .c (.sc (.int .i64 a)), .c (.sc (.int .i64 b)), .c (.sc (.int .i64 c)), .c (.sc (.int .i64 d)), .c (.bp 0 0)] [.box [.sl 1 0 l.length l.length], .row 76 5 (quints l)] (fun r S => r = .tup [] ∧ S = [.box [.sl 1 0 (l ++ [(q, a, b, c, d)]).length (l ++ [(q, a, b, c, d)]).length], .row 76 5 (quints (l ++ [(q, a, b, c, d)]))]) := by
 refine E_fn Tryz.func44 rfl (Nat.le_of_ble_eq_true rfl) ?_
 refine E_region' (L:=[0,1,2,3,4,5,6,7,8,9]) rfl ?_
 refine l_ rfl (L_load rfl (xb0 ty_50)) ?_
 refine xmv ?_
 refine xmv ?_
 refine xmv ?_
 refine xmv ?_
 refine xmv ?_
 refine p_ rfl (L_build rfl bd_76 rfl rfl) ?_
 refine EOps_go rfl rfl (Heavy.op (H_bslice_ro rfl rfl (by decide) sl_50 ty_76 za_76 ⟨rfl,by decide⟩ (by decide) rfl rfl rfl rfl ?_))
 refine EOps_go rfl rfl (EOp_append (news:=quints [(q,a,b,c,d)]) rfl rfl (by decide) sl_50 ty_76 by_76 za_76 ⟨rfl,by decide⟩ rfl (by first|rfl|assumption) xb7 xb8 xb9 xb10 ?_)
 refine EOps_go rfl rfl (EOp_store rfl rfl rfl (xb1 ty_50) ?_)
 refine EOps_nil ?_
 rw [← quints_lenApp,← quints_app]
 exact⟨_,[],rfl,rfl,rfl,rfl⟩

set_option maxRecDepth 20000 in
set_option maxHeartbeats 2000000 in
theorem c_impl_queries_1B (q a b c d : Int) (l : List Qn) (hl : l.length ≤ 1000000) : EFn Tryz.prog 66 [.c (.sc (.int .i64 a)), .c (.sc (.int .i64 b)), .c (.sc (.int .i64 c)), .c (.sc (.int .i64 d)), .c (.bp 0 0), .c (.bp 1 0)] [.box [.fn 44 [.bp 2 0]], .box [.sc (.int .i64 q)], .box [.sl 3 0 l.length l.length], .row 76 5 (quints l)] (fun r S => r = .tup [] ∧ S = [.box [.fn 44 [.bp 2 0]], .box [.sc (.int .i64 q)], .box [.sl 3 0 (l ++ [(q, a, b, c, d)]).length (l ++ [(q, a, b, c, d)]).length], .row 76 5 (quints (l ++ [(q, a, b, c, d)]))]) := by
 refine E_fn Tryz.func66 rfl (Nat.le_of_ble_eq_true rfl) ?_
 refine E_region' (L:=[0,1,2,3,4,5,6]) rfl ?_
 refine l_ rfl (L_load rfl (xb0 ty_70)) ?_
 refine l_ rfl (L_load rfl (xb0 ty_3)) ?_
 refine xmv ?_
 refine xmv ?_
 refine xmv ?_
 refine xmv ?_
 refine x_frameC [2,3] rfl rfl rfl rfl rfl ca_44 rfl (c_impl_LedgerOf_1 q a b c d l hl) ?_
 rintro r S ⟨r0,S0,⟨rfl,rfl⟩,rfl,rfl⟩
 refine EOps_nil ?_
 exact⟨_,[],rfl,rfl,rfl,rfl⟩

set_option maxRecDepth 20000 in
set_option maxHeartbeats 2000000 in
theorem c_impl_cracking_1B (q : Int) (c : Crk) (v n : Int) (l : List Qn) (hc : isCrk c = true) (hv : bnd v = true) (hn : 0 ≤ n ∧ n ≤ 1000000000) (hl : l.length ≤ 1000000) : EFn Tryz.prog 103 [.c (.sc (.int .i64 v)), .c (.bp 0 0), .c (.bp 1 0), .c (.bp 2 0)] [.box (crkO 7 c), .box [.sc (.int .i64 n)], .box [.fn 66 [.bp 3 0, .bp 4 0]], .box [.fn 44 [.bp 5 0]], .box [.sc (.int .i64 q)], .box [.sl 6 0 l.length l.length], .row 76 5 (quints l), .row 3 1 (ints c.vals), .row 3 1 (ints c.rows), .row 87 2 (pairs c.piv)] (fun r S => r = .tup [] ∧ S = [.box (crkO 10 (crackC c v).1), .box [.sc (.int .i64 (n + totW (chgs q c v)))], .box [.fn 66 [.bp 3 0, .bp 4 0]], .box [.fn 44 [.bp 5 0]], .box [.sc (.int .i64 q)], .box [.sl 6 0 (l ++ chgs q c v).length (l ++ chgs q c v).length], .row 76 5 (quints (l ++ chgs q c v)), .gone, .gone, .gone, .row 3 1 (ints (crackC c v).1.vals), .row 3 1 (ints (crackC c v).1.rows), .row 87 2 (pairs (crackC c v).1.piv)]) := by
 refine E_fn Tryz.func103 rfl (Nat.le_of_ble_eq_true rfl) ?_
 have hlc:=crk_lens hc
 have hco:=(crackC_ok hc hv).2
 refine E_moveN' 10 0 0 rfl rfl rfl rfl (ints_len _) (Nat.le_refl _) (ints_all _ rfl) (ints_allSc _) ?_
 refine E_moveN' 11 0 1 rfl rfl rfl rfl (ints_len _) (Nat.le_refl _) (ints_all _ rfl) (ints_allSc _) ?_
 refine E_moveN' 12 0 2 rfl rfl rfl rfl (pairs_len _) (Nat.le_refl _) (pairs_all _ rfl) (pairs_isSc _) ?_
 refine E_seq ?_
 refine E_seq ?_
 refine e_tidy_A37_2 [0,1,2,3] ?_
 refine E_region' (L:=[0,1,2]) rfl ?_
 refine l_ rfl (L_load rfl (xb0 ty_42)) ?_
 refine xmv ?_
 refine x_call rfl rfl rfl rfl rfl ca_48 (c_impl_isPivot c v (by omega)) ?_
 rintro r S ⟨rfl,rfl⟩
 refine EOps_nil ?_
 refine E_cond rfl (fun hc11=>?_) (fun hc11=>?_)
 ·have hp : isPv c.piv v = true := hc11
  have hcr:crackC c v=(c,[]):=by rw [crackC,if_pos hp]
  have hch:totW (chgs q c v)=0:=by rw [chgs,if_pos hp];rfl
  have hcq:chgs q c v=[]:=by rw [chgs,if_pos hp]
  refine E_ret ?_
  rw [hch,hcr,Int.add_zero,hcq,List.append_nil]
  exact⟨_,[10,11,12],rfl,rfl,rfl,rfl⟩
 have hp : isPv c.piv v = false := hc11
 have hch:totW (chgs q c v)=((crackC c v).2.length:Int):=by rw [chgs,if_neg (by simp [hp])];simp [totW]
 have hcq:chgs q c v=[(q,v,pcFrom c.piv v,pcTo c.piv c.vals.length v,((crackC c v).2.length:Int))]:=by rw [chgs,if_neg (by simp [hp])]
 refine E_skip ?_
 refine E_seq ?_
 refine e_tidy_A37_2 [0,1,2,3,11] ?_
 refine E_region' (L:=[0,1,2,3,4,5,6,7]) rfl ?_
 refine l_ rfl (L_load rfl (xb0 ty_42)) ?_
 refine xmv ?_
 refine x_call rfl rfl rfl rfl rfl ca_49 (c_impl_piece c v ⟨by omega,by omega⟩) ?_
 rintro r S ⟨rfl,rfl⟩
 refine xmv ?_
 refine p_ rfl (L_extract rfl rfl) ?_
 refine p_ rfl (L_extract rfl rfl) ?_
 refine xas ?_
 refine xas ?_
 refine EOps_nil ?_
 refine E_seq ?_
 refine e_tidy_A37_2 [0,1,2,3,5,6,11] ?_
 refine E_region' (L:=[0,1,2,3,4,5,6,7,8]) rfl ?_
 refine l_ rfl (L_load rfl (xb0 ty_42)) ?_
 refine xmv ?_
 refine x_call rfl rfl rfl rfl rfl ca_50 (c_impl_crack c v hc hv) ?_
 rintro r S ⟨rfl,rfl⟩
 rw [crkT]
 refine xmv ?_
 refine p_ rfl (L_extract rfl rfl) ?_
 refine p_ rfl (L_extract rfl rfl) ?_
 refine x_alloc rfl rfl rfl rfl za_42 ?_
 refine EOps_go rfl rfl (EOp_store rfl rfl rfl (xb1 ty_42) ?_)
 refine xas ?_
 refine EOps_nil ?_
 refine E_seq ?_
 refine E_region' (L:=[0,1]) rfl ?_
 refine l_ rfl (L_load rfl (xb0 ty_42)) ?_
 refine EOps_go rfl rfl (EOp_store rfl rfl rfl (xb1 ty_42) ?_)
 refine EOps_nil ?_
 refine E_seq ?_
 refine E_region' (L:=[0,1,2,3,4]) rfl ?_
 refine l_ rfl (L_load rfl (xb0 ty_3)) ?_
 refine xmv ?_
 refine p_ rfl (l_len rfl sl_81) ?_
 refine p_ rfl xb3 ?_
 refine EOps_go rfl rfl (EOp_store rfl rfl rfl (xb1 ty_3) ?_)
 refine EOps_nil ?_
 refine e_tidy_A37_2 [0,1,2,3,5,6,7,8,11] ?_
 refine E_region' (L:=[0,1,2,3,4,5,6]) rfl ?_
 refine l_ rfl (L_load rfl (xb0 ty_99)) ?_
 refine xmv ?_
 refine xmv ?_
 refine xmv ?_
 refine xmv ?_
 refine p_ rfl (l_len rfl sl_81) ?_
 refine x_frameC [3,4,5,6] rfl rfl rfl rfl rfl ca_66 rfl (c_impl_queries_1B q v (pcFrom c.piv v) (pcTo c.piv c.vals.length v) ((crackC c v).2.length:Int) l hl) ?_
 rintro r S ⟨r0,S0,⟨rfl,rfl⟩,rfl,rfl⟩
 refine EOps_nil ?_
 rw [hch,hcq]
 exact⟨_,[13,14,15],rfl,rfl,rfl,rfl⟩

set_option maxRecDepth 20000 in
set_option maxHeartbeats 8000000 in
theorem c_impl_crackingB (q : Int) (c : Crk) (s : Sett) (v : Int) (l : List Qn) (N0 : Nat) (hc : isCrk c = true) (hs : isSet s = true) (hv : bnd v = true) (hl : okL l N0) (h0 : N0 ≤ 500000) : EFn Tryz.prog 89 [.agg (crkO 0 c), .agg (setC s), .c (.sc (.int .i64 v)), .c (.fn 66 [.bp 3 0, .bp 4 0])] [.row 3 1 (ints c.vals), .row 3 1 (ints c.rows), .row 87 2 (pairs c.piv), .box [.fn 44 [.bp 5 0]], .box [.sc (.int .i64 q)], .box [.sl 6 0 l.length l.length], .row 76 5 (quints l)] (fun r S => r = .tup [(true, crkO 7 (withW q c s v l).1), (true, setC (withW q c s v l).2.1), (false, [.sc (.int .i64 (totW (withW q c s v l).2.2 - totW l))])] ∧ S = [.gone, .gone, .gone, .box [.fn 44 [.bp 5 0]], .box [.sc (.int .i64 q)], .box [.sl 6 0 (withW q c s v l).2.2.length (withW q c s v l).2.2.length], .row 76 5 (quints (withW q c s v l).2.2), .row 3 1 (ints (withW q c s v l).1.vals), .row 3 1 (ints (withW q c s v l).1.rows), .row 87 2 (pairs (withW q c s v l).1.piv)]) := by
  refine E_fn Tryz.func89 rfl (Nat.le_of_ble_eq_true rfl) ?_
  refine E_G (n:=7) rfl ?_
  refine G_seq ?_
  refine G_region' (L:=[0,1,2,3,4,5]) rfl ?_
  refine x_box rfl rfl rfl rfl rfl ?_
  refine x_box rfl rfl rfl rfl rfl ?_
  refine x_box rfl rfl rfl rfl rfl ?_
  refine x_alloc rfl rfl rfl rfl za_42 ?_
  refine x_alloc rfl rfl rfl rfl za_29 ?_
  refine xas ?_
  refine EOps_nil ?_
  refine G_seq ?_
  refine G_region' (L:=[0,1]) rfl ?_
  refine x_alloc rfl rfl rfl rfl za_3 ?_
  refine EOps_go rfl rfl (EOp_store rfl rfl rfl (xb1 ty_3) ?_)
  refine EOps_nil ?_
  refine G_seq ?_
  refine G_region' (L:=[0,1]) rfl ?_
  refine p_ rfl (L_func rfl rfl) ?_
  refine xas ?_
  refine EOps_nil ?_
  refine G_seq ?_
  refine G_block ?_
  refine G_moveN' 13 7 0 rfl rfl rfl rfl (ints_len _) (Nat.le_refl _) (ints_all _ rfl) (ints_allSc _) ?_
  refine G_moveN' 14 7 1 rfl rfl rfl rfl (ints_len _) (Nat.le_refl _) (ints_all _ rfl) (ints_allSc _) ?_
  refine G_moveN' 15 7 2 rfl rfl rfl rfl (pairs_len _) (Nat.le_refl _) (pairs_all _ rfl) (pairs_isSc _) ?_
  refine g_forD_A37_1 (α:=Nat × Crk × Sett × List Qn) [0,1,2,3,4,5,7,8,9,10,11,12] (fun (f,cur,st,l1)=>[]) (fun (f,cur,st,l1)=>[.gone,.gone,.gone,.box [.fn 44 [.bp 5 0]],.box [.sc (.int .i64 q)],.box [.sl 6 0 l1.length l1.length],.row 76 5 (quints l1),.box (crkO 13 cur),.box (setC st),.box [.fn 66 [.bp 3 0,.bp 4 0]],.box [.sc (.slice none 0 0),.sc (.slice none 0 0),.sc (.slice none 0 0)],.box [.sc (.int .i64 0),.sc (.int .i64 0),.sc (.int .i64 0)],.box [.sc (.int .i64 (totW l1 - totW l))],.row 3 1 (ints cur.vals),.row 3 1 (ints cur.rows),.row 87 2 (pairs cur.piv)]) (fun (f,cur,st,l1)=>isCrk cur=true∧isSet st=true∧goW q v f cur st l1=goW q v 4000 c s l∧2001<f+cur.piv.length∧f≤4000∧okL l1 (N0+2*(4000 - f))∧totW l≤totW l1) (fun (f,cur,st,l1)=>f) ((4000,c,s,l)) ?_ (by dsimp only;rw [Int.sub_self];rfl) trivial ?_
  · exact⟨hc,hs,rfl,by first|omega|(dsimp only;omega),by first|omega|(dsimp only;omega),okL_mono hl (by first|omega|(dsimp only;omega)),Int.le_refl _⟩
  rintro⟨f,cur,st,l1⟩ ⟨hcur,hset,hgo,hfu,hf4,hok,hge⟩
  dsimp only at *
  have hlc:=crk_lens hcur
  obtain⟨f',rfl⟩:∃ f',f=f'+1:=⟨f - 1,by omega⟩
  have hpb:=pc_bounds hcur v
  obtain⟨a,ha⟩:∃ a:Nat,pcFrom cur.piv v=a:=⟨_,(Int.toNat_of_nonneg hpb.1).symm⟩
  obtain⟨b,hbb⟩:∃ b:Nat,pcTo cur.piv cur.vals.length v=b:=⟨_,(Int.toNat_of_nonneg (by omega)).symm⟩
  have hpc:pcT cur v = .tup [(false,[.sc (.int .i64 (a:Int))]),(false,[.sc (.int .i64 (b:Int))])]:=by rw [pcT,ha,hbb]
  have hgs:goW q v (f'+1) cur st l1=if stopW cur st v=true then (cur,st,l1) else goW q v f' (stepW cur st v) (setN st) (l1++chgs q cur (chW cur st v)++chgs q (crackC cur (chW cur st v)).1 (chW cur st v+1)):=rfl
  have hsp:=set_parts hset
  have hl1:=hok.1
  have ht1:=okL_tot hok
  have ht0:=okL_tot hl
  have hl0:=hl.1
  refine G_seq ?_
  refine G_seq ?_
  refine g_tidy_A37_0 [0,1,2,3,4,5,7,8,9,10,11,12,13,14,15,25,37] ?_
  refine G_region' (L:=[0,1,2,3,4,5,6,7,8]) rfl ?_
  refine p_ rfl (l_field rfl fo_29_0) ?_
  refine l_ rfl (L_load rfl (xb0 ty_3)) ?_
  refine p_ rfl (L_bin rfl rfl rfl rfl) ?_
  refine xmv ?_
  refine EOps_split 20 (b:=_) rfl (fun hg20=>?_) (fun hg20=>?_)
  · refine l_ rfl (L_load rfl (xb2 ty_42)) ?_
    refine xmv ?_
    refine x_call rfl rfl rfl rfl rfl ca_48 (c_impl_isPivot cur v (by omega)) ?_
    rintro r S ⟨rfl,rfl⟩
    refine p_ rfl (L_not rfl rfl) ?_
    refine p_ rfl (L_pick rfl rfl) ?_
    refine EOps_nil ?_
    refine G_cond rfl (fun hc25=>?_) (fun hc25=>?_)
    · refine G_skip ?_
      refine G_block ?_
      refine G_seq ?_
      refine g_tidy_A37_0 [0,1,2,3,4,5,7,8,9,10,11,12,13,14,15,25,37] ?_
      refine G_region' (L:=[0,1,2,3,4,5,6,7]) rfl ?_
      refine l_ rfl (L_load rfl (xb0 ty_42)) ?_
      refine xmv ?_
      refine x_call rfl rfl rfl rfl rfl ca_49 (c_impl_piece cur v ⟨by omega,by omega⟩) ?_
      rintro r S ⟨rfl,rfl⟩
      rw [hpc]
      refine xmv ?_
      refine p_ rfl (L_extract rfl rfl) ?_
      refine p_ rfl (L_extract rfl rfl) ?_
      refine xas ?_
      refine xas ?_
      refine EOps_nil ?_
      refine G_seq ?_
      refine G_seq ?_
      refine G_region' (L:=[0,1,2,3,4,5]) rfl ?_
      refine xmv ?_
      refine xmv ?_
      refine p_ rfl xb6 ?_
      refine p_ rfl (l_field rfl fo_29_1) ?_
      refine l_ rfl (L_load rfl (xb0 ty_3)) ?_
      refine p_ rfl (L_bin rfl rfl rfl rfl) ?_
      refine EOps_nil ?_
      refine G_cond rfl (fun hc37=>?_) (fun hc37=>?_)
      · have hst : stopW cur st v = true := by
          have h1:(b:Int) - a≤st.thr:=by simpa using hc37
          rw [stopW,ha,hbb]
          simp [h1]
        rw [if_pos hst] at hgs
        have hres:goW q v 4000 c s l=(cur,st,l1):=hgo.symm.trans hgs
        have hW:withW q c s v l=((crackC cur v).1,st,l1++chgs q cur v):=by rw [withW,hres]
        refine G_exit ?_
        refine G_seq ?_
        refine g_tidy_A37_0 [0,1,2,3,4,5,7,8,9,10,11,12,13,14,15,25,37] ?_
        refine G_region' (L:=[0,1,2]) rfl ?_
        refine xmv ?_
        refine xmv ?_
        refine x_frameC [7,12,9,3,4,5,6,13,14,15] rfl rfl rfl rfl rfl ca_103 rfl (c_impl_cracking_1B q cur v (totW l1 - totW l) l1 hcur hv ⟨by omega,by omega⟩ (by omega)) ?_
        rintro r S ⟨r0,S0,⟨rfl,rfl⟩,rfl,rfl⟩
        refine EOps_nil ?_
        refine G_seq ?_
        refine G_drawU mixed ?_
        refine u_any 0 [1,2] ⟨?_,?_,?_,trivial⟩
        · refine u_op 0 rfl rfl (EOp_light rfl (by decide) (L_load rfl (xb2 ty_42)) ?_)
          refine u_any 1 [2,3] ⟨?_,?_,?_,trivial⟩
          · refine u_op 1 rfl rfl (EOp_light rfl (by decide) (L_load rfl (xb2 ty_29)) ?_)
            refine u_any 2 [3] ⟨?_,?_,trivial⟩
            · refine u_op 2 rfl rfl (EOp_light rfl (by decide) (L_load rfl (xb2 ty_3)) ?_)
              refine u_any 3 [] ⟨?_,trivial⟩
              refine u_op 3 rfl rfl (EOp_store rfl rfl rfl (xb1 ty_42) ?_)
              refine u_any 4 [] ⟨?_,trivial⟩
              refine u_op 4 rfl rfl (EOp_store rfl rfl rfl (xb1 ty_29) ?_)
              refine up_ 5 rfl (L_assign rfl) ?_
              refine u_done ?_
              refine G_ret ?_
              rw [hW]
              dsimp only
              rw [totW_app,show totW l1+totW (chgs q cur v) - totW l=totW l1 - totW l+totW (chgs q cur v) by omega]
              exact⟨_,[16,17,18],rfl,rfl,rfl,rfl⟩
            refine u_op 3 rfl rfl (EOp_store rfl rfl rfl (xb5 ty_42) ?_)
            refine u_any 2 [4] ⟨?_,?_,trivial⟩
            · refine u_op 2 rfl rfl (EOp_light rfl (by decide) (L_load rfl (xb2 ty_3)) ?_)
              refine u_any 4 [] ⟨?_,trivial⟩
              refine u_op 4 rfl rfl (EOp_store rfl rfl rfl (xb1 ty_29) ?_)
              refine up_ 5 rfl (L_assign rfl) ?_
              refine u_done ?_
              refine G_ret ?_
              rw [hW]
              dsimp only
              rw [totW_app,show totW l1+totW (chgs q cur v) - totW l=totW l1 - totW l+totW (chgs q cur v) by omega]
              exact⟨_,[16,17,18],rfl,rfl,rfl,rfl⟩
            refine u_op 4 rfl rfl (EOp_store rfl rfl rfl (xb5 ty_29) ?_)
            refine u_any 2 [] ⟨?_,trivial⟩
            refine u_op 2 rfl rfl (EOp_light rfl (by decide) (L_load rfl (xb0 ty_3)) ?_)
            refine up_ 5 rfl (L_assign rfl) ?_
            refine u_done ?_
            refine G_ret ?_
            rw [hW]
            dsimp only
            rw [totW_app,show totW l1+totW (chgs q cur v) - totW l=totW l1 - totW l+totW (chgs q cur v) by omega]
            exact⟨_,[16,17,18],rfl,rfl,rfl,rfl⟩
          · refine u_op 2 rfl rfl (EOp_light rfl (by decide) (L_load rfl (xb2 ty_3)) ?_)
            refine u_any 1 [3] ⟨?_,?_,trivial⟩
            · refine u_op 1 rfl rfl (EOp_light rfl (by decide) (L_load rfl (xb2 ty_29)) ?_)
              refine u_any 3 [] ⟨?_,trivial⟩
              refine u_op 3 rfl rfl (EOp_store rfl rfl rfl (xb1 ty_42) ?_)
              refine u_any 4 [] ⟨?_,trivial⟩
              refine u_op 4 rfl rfl (EOp_store rfl rfl rfl (xb1 ty_29) ?_)
              refine up_ 5 rfl (L_assign rfl) ?_
              refine u_done ?_
              refine G_ret ?_
              rw [hW]
              dsimp only
              rw [totW_app,show totW l1+totW (chgs q cur v) - totW l=totW l1 - totW l+totW (chgs q cur v) by omega]
              exact⟨_,[16,17,18],rfl,rfl,rfl,rfl⟩
            refine u_op 3 rfl rfl (EOp_store rfl rfl rfl (xb5 ty_42) ?_)
            refine u_any 1 [] ⟨?_,trivial⟩
            refine u_op 1 rfl rfl (EOp_light rfl (by decide) (L_load rfl (xb0 ty_29)) ?_)
            refine u_any 4 [] ⟨?_,trivial⟩
            refine u_op 4 rfl rfl (EOp_store rfl rfl rfl (xb1 ty_29) ?_)
            refine up_ 5 rfl (L_assign rfl) ?_
            refine u_done ?_
            refine G_ret ?_
            rw [hW]
            dsimp only
            rw [totW_app,show totW l1+totW (chgs q cur v) - totW l=totW l1 - totW l+totW (chgs q cur v) by omega]
            exact⟨_,[16,17,18],rfl,rfl,rfl,rfl⟩
          refine u_op 3 rfl rfl (EOp_store rfl rfl rfl (xb5 ty_42) ?_)
          refine u_any 1 [2] ⟨?_,?_,trivial⟩
          · refine u_op 1 rfl rfl (EOp_light rfl (by decide) (L_load rfl (xb2 ty_29)) ?_)
            refine u_any 2 [4] ⟨?_,?_,trivial⟩
            · refine u_op 2 rfl rfl (EOp_light rfl (by decide) (L_load rfl (xb2 ty_3)) ?_)
              refine u_any 4 [] ⟨?_,trivial⟩
              refine u_op 4 rfl rfl (EOp_store rfl rfl rfl (xb1 ty_29) ?_)
              refine up_ 5 rfl (L_assign rfl) ?_
              refine u_done ?_
              refine G_ret ?_
              rw [hW]
              dsimp only
              rw [totW_app,show totW l1+totW (chgs q cur v) - totW l=totW l1 - totW l+totW (chgs q cur v) by omega]
              exact⟨_,[16,17,18],rfl,rfl,rfl,rfl⟩
            refine u_op 4 rfl rfl (EOp_store rfl rfl rfl (xb5 ty_29) ?_)
            refine u_any 2 [] ⟨?_,trivial⟩
            refine u_op 2 rfl rfl (EOp_light rfl (by decide) (L_load rfl (xb0 ty_3)) ?_)
            refine up_ 5 rfl (L_assign rfl) ?_
            refine u_done ?_
            refine G_ret ?_
            rw [hW]
            dsimp only
            rw [totW_app,show totW l1+totW (chgs q cur v) - totW l=totW l1 - totW l+totW (chgs q cur v) by omega]
            exact⟨_,[16,17,18],rfl,rfl,rfl,rfl⟩
          refine u_op 2 rfl rfl (EOp_light rfl (by decide) (L_load rfl (xb2 ty_3)) ?_)
          refine u_any 1 [] ⟨?_,trivial⟩
          refine u_op 1 rfl rfl (EOp_light rfl (by decide) (L_load rfl (xb0 ty_29)) ?_)
          refine u_any 4 [] ⟨?_,trivial⟩
          refine u_op 4 rfl rfl (EOp_store rfl rfl rfl (xb1 ty_29) ?_)
          refine up_ 5 rfl (L_assign rfl) ?_
          refine u_done ?_
          refine G_ret ?_
          rw [hW]
          dsimp only
          rw [totW_app,show totW l1+totW (chgs q cur v) - totW l=totW l1 - totW l+totW (chgs q cur v) by omega]
          exact⟨_,[16,17,18],rfl,rfl,rfl,rfl⟩
        · refine u_op 1 rfl rfl (EOp_light rfl (by decide) (L_load rfl (xb2 ty_29)) ?_)
          refine u_any 0 [2] ⟨?_,?_,trivial⟩
          · refine u_op 0 rfl rfl (EOp_light rfl (by decide) (L_load rfl (xb2 ty_42)) ?_)
            refine u_any 2 [3] ⟨?_,?_,trivial⟩
            · refine u_op 2 rfl rfl (EOp_light rfl (by decide) (L_load rfl (xb2 ty_3)) ?_)
              refine u_any 3 [] ⟨?_,trivial⟩
              refine u_op 3 rfl rfl (EOp_store rfl rfl rfl (xb1 ty_42) ?_)
              refine u_any 4 [] ⟨?_,trivial⟩
              refine u_op 4 rfl rfl (EOp_store rfl rfl rfl (xb1 ty_29) ?_)
              refine up_ 5 rfl (L_assign rfl) ?_
              refine u_done ?_
              refine G_ret ?_
              rw [hW]
              dsimp only
              rw [totW_app,show totW l1+totW (chgs q cur v) - totW l=totW l1 - totW l+totW (chgs q cur v) by omega]
              exact⟨_,[16,17,18],rfl,rfl,rfl,rfl⟩
            refine u_op 3 rfl rfl (EOp_store rfl rfl rfl (xb5 ty_42) ?_)
            refine u_any 2 [4] ⟨?_,?_,trivial⟩
            · refine u_op 2 rfl rfl (EOp_light rfl (by decide) (L_load rfl (xb2 ty_3)) ?_)
              refine u_any 4 [] ⟨?_,trivial⟩
              refine u_op 4 rfl rfl (EOp_store rfl rfl rfl (xb1 ty_29) ?_)
              refine up_ 5 rfl (L_assign rfl) ?_
              refine u_done ?_
              refine G_ret ?_
              rw [hW]
              dsimp only
              rw [totW_app,show totW l1+totW (chgs q cur v) - totW l=totW l1 - totW l+totW (chgs q cur v) by omega]
              exact⟨_,[16,17,18],rfl,rfl,rfl,rfl⟩
            refine u_op 4 rfl rfl (EOp_store rfl rfl rfl (xb5 ty_29) ?_)
            refine u_any 2 [] ⟨?_,trivial⟩
            refine u_op 2 rfl rfl (EOp_light rfl (by decide) (L_load rfl (xb0 ty_3)) ?_)
            refine up_ 5 rfl (L_assign rfl) ?_
            refine u_done ?_
            refine G_ret ?_
            rw [hW]
            dsimp only
            rw [totW_app,show totW l1+totW (chgs q cur v) - totW l=totW l1 - totW l+totW (chgs q cur v) by omega]
            exact⟨_,[16,17,18],rfl,rfl,rfl,rfl⟩
          refine u_op 2 rfl rfl (EOp_light rfl (by decide) (L_load rfl (xb2 ty_3)) ?_)
          refine u_any 0 [] ⟨?_,trivial⟩
          refine u_op 0 rfl rfl (EOp_light rfl (by decide) (L_load rfl (xb0 ty_42)) ?_)
          refine u_any 3 [] ⟨?_,trivial⟩
          refine u_op 3 rfl rfl (EOp_store rfl rfl rfl (xb1 ty_42) ?_)
          refine u_any 4 [] ⟨?_,trivial⟩
          refine u_op 4 rfl rfl (EOp_store rfl rfl rfl (xb1 ty_29) ?_)
          refine up_ 5 rfl (L_assign rfl) ?_
          refine u_done ?_
          refine G_ret ?_
          rw [hW]
          dsimp only
          rw [totW_app,show totW l1+totW (chgs q cur v) - totW l=totW l1 - totW l+totW (chgs q cur v) by omega]
          exact⟨_,[16,17,18],rfl,rfl,rfl,rfl⟩
        refine u_op 2 rfl rfl (EOp_light rfl (by decide) (L_load rfl (xb2 ty_3)) ?_)
        refine u_any 0 [1] ⟨?_,?_,trivial⟩
        · refine u_op 0 rfl rfl (EOp_light rfl (by decide) (L_load rfl (xb2 ty_42)) ?_)
          refine u_any 1 [3] ⟨?_,?_,trivial⟩
          · refine u_op 1 rfl rfl (EOp_light rfl (by decide) (L_load rfl (xb2 ty_29)) ?_)
            refine u_any 3 [] ⟨?_,trivial⟩
            refine u_op 3 rfl rfl (EOp_store rfl rfl rfl (xb1 ty_42) ?_)
            refine u_any 4 [] ⟨?_,trivial⟩
            refine u_op 4 rfl rfl (EOp_store rfl rfl rfl (xb1 ty_29) ?_)
            refine up_ 5 rfl (L_assign rfl) ?_
            refine u_done ?_
            refine G_ret ?_
            rw [hW]
            dsimp only
            rw [totW_app,show totW l1+totW (chgs q cur v) - totW l=totW l1 - totW l+totW (chgs q cur v) by omega]
            exact⟨_,[16,17,18],rfl,rfl,rfl,rfl⟩
          refine u_op 3 rfl rfl (EOp_store rfl rfl rfl (xb5 ty_42) ?_)
          refine u_any 1 [] ⟨?_,trivial⟩
          refine u_op 1 rfl rfl (EOp_light rfl (by decide) (L_load rfl (xb0 ty_29)) ?_)
          refine u_any 4 [] ⟨?_,trivial⟩
          refine u_op 4 rfl rfl (EOp_store rfl rfl rfl (xb1 ty_29) ?_)
          refine up_ 5 rfl (L_assign rfl) ?_
          refine u_done ?_
          refine G_ret ?_
          rw [hW]
          dsimp only
          rw [totW_app,show totW l1+totW (chgs q cur v) - totW l=totW l1 - totW l+totW (chgs q cur v) by omega]
          exact⟨_,[16,17,18],rfl,rfl,rfl,rfl⟩
        refine u_op 1 rfl rfl (EOp_light rfl (by decide) (L_load rfl (xb2 ty_29)) ?_)
        refine u_any 0 [] ⟨?_,trivial⟩
        refine u_op 0 rfl rfl (EOp_light rfl (by decide) (L_load rfl (xb0 ty_42)) ?_)
        refine u_any 3 [] ⟨?_,trivial⟩
        refine u_op 3 rfl rfl (EOp_store rfl rfl rfl (xb1 ty_42) ?_)
        refine u_any 4 [] ⟨?_,trivial⟩
        refine u_op 4 rfl rfl (EOp_store rfl rfl rfl (xb1 ty_29) ?_)
        refine up_ 5 rfl (L_assign rfl) ?_
        refine u_done ?_
        refine G_ret ?_
        rw [hW]
        dsimp only
        rw [totW_app,show totW l1+totW (chgs q cur v) - totW l=totW l1 - totW l+totW (chgs q cur v) by omega]
        exact⟨_,[16,17,18],rfl,rfl,rfl,rfl⟩
      have hst : stopW cur st v = false := by
        have h1:isPv cur.piv v=false:=by simpa using hc25
        have h2:¬ st.pol=0:=by simpa using hg20
        have h3:¬ (b:Int) - a≤st.thr:=by simpa using hc37
        rw [stopW,ha,hbb]
        simp [h1,h2,h3]
      obtain⟨hab,bm,bm1,k1,k2,k3⟩:=stepW_ok hcur hset hst
      rw [if_neg (by simp [hst])] at hgs
      have hchw:chW cur st v=chP cur st a b:=by rw [chW,ha,hbb]
      have hsw:stepW cur st v=(crackC (crackC cur (chP cur st a b)).1 (chP cur st a b+1)).1:=by rw [stepW,hchw]
      rw [hsw,hchw] at hgs
      rw [hsw] at k2 k3
      rw [hchw] at bm bm1 k1
      rw [ha,hbb] at hab
      refine G_skip ?_
      refine G_seq ?_
      refine G_region' (L:=[0]) rfl ?_
      refine xas ?_
      refine EOps_nil ?_
      refine G_seq ?_
      refine g_tidy_A37_0 [0,1,2,3,4,5,7,8,9,10,11,12,13,14,15,25,37] ?_
      refine G_region' (L:=[0,1,2,3,4,5,6,7,8,9]) rfl ?_
      refine l_ rfl (L_load rfl (xb0 ty_42)) ?_
      refine l_ rfl (L_load rfl (xb0 ty_29)) ?_
      refine xmv ?_
      refine xmv ?_
      refine x_call rfl rfl rfl rfl rfl ca_104 (c_impl_ChoosePivot cur st a b hcur hset (by omega)) ?_
      rintro r S ⟨rfl,rfl⟩
      generalize chP cur st a b=md at *
      have hmb:-1000≤md∧md≤1000:=by simpa [bnd,isIn] using bm
      have o1:=chgs_ok (q:=q) hcur bm
      have o2:=chgs_ok (q:=q) k1 bm1
      have hol:=okL_app (okL_app hok o1) o2
      have hol1:=(okL_app hok o1).1
      have ht2:=okL_tot o1
      have hl2:=o1.1
      refine xmv ?_
      refine p_ rfl (L_extract rfl rfl) ?_
      refine p_ rfl (L_extract rfl rfl) ?_
      refine xas ?_
      refine EOps_go rfl rfl (EOp_store rfl rfl rfl (xb1 ty_29) ?_)
      refine EOps_nil ?_
      refine G_seq ?_
      refine g_tidy_A37_0 [0,1,2,3,4,5,7,8,9,10,11,12,13,14,15,25,37] ?_
      refine G_region' (L:=[0,1,2]) rfl ?_
      refine xmv ?_
      refine xmv ?_
      refine x_frameC [7,12,9,3,4,5,6,13,14,15] rfl rfl rfl rfl rfl ca_103 rfl (c_impl_cracking_1B q cur md (totW l1 - totW l) l1 hcur bm ⟨by omega,by omega⟩ (by omega)) ?_
      rintro r S ⟨r0,S0,⟨rfl,rfl⟩,rfl,rfl⟩
      generalize chgs q cur md=L1 at *
      generalize crackC cur md=P at *
      obtain⟨c1,s1⟩:=P
      dsimp only at *
      refine EOps_nil ?_
      refine g_tidy_A37_0 [0,1,2,3,4,5,7,8,9,10,11,12,13,14,15,25,37] ?_
      refine G_region' (L:=[0,1,2,3]) rfl ?_
      refine xmv ?_
      refine xmv ?_
      refine p_ rfl xb3 ?_
      refine x_frameC [7,12,9,3,4,5,6,16,17,18] rfl rfl rfl rfl rfl ca_103 rfl (c_impl_cracking_1B q c1 (md+1) (totW l1 - totW l+totW L1) (l1++L1) k1 bm1 ⟨by omega,by omega⟩ (by omega)) ?_
      rintro r S ⟨r0,S0,⟨rfl,rfl⟩,rfl,rfl⟩
      generalize chgs q c1 (md+1)=L2 at *
      generalize crackC c1 (md+1)=P at *
      obtain⟨c2,s2⟩:=P
      dsimp only at *
      refine EOps_nil ?_
      refine⟨[7,8,9,10,11,12,19,20,21],rfl,(f',c2,setN st,l1++L1++L2),?_,?_,(by simp only [totW_app];rw [show totW l1+totW L1+totW L2 - totW l=totW l1 - totW l+totW L1+totW L2 by omega];rfl),trivial,⟨.inr rfl,.inr rfl,.inr rfl,.inr rfl,.inr rfl,.inr rfl,.inr rfl,.inr rfl,.inr rfl,.inr rfl,.inr rfl,.inr rfl,trivial⟩⟩
      · first|omega|(dsimp only;omega)|(simp;omega)
      exact⟨k2,setN_ok hset,hgs.symm.trans hgo,by dsimp only;omega,by dsimp only;omega,okL_mono (okL_mono hol (Nat.le_refl _)) (by dsimp only;omega),by simp only [totW_app];have:=okL_tot o2;omega⟩
    have hst : stopW cur st v = true := by
      rw [stopW]
      first
        | (have h1 : st.pol = 0 := by simpa using hg20
           simp [h1];done)
        | (have h1 : isPv cur.piv v = true := by simpa using hc25
           simp [h1])
    rw [if_pos hst] at hgs
    have hres:goW q v 4000 c s l=(cur,st,l1):=hgo.symm.trans hgs
    have hW:withW q c s v l=((crackC cur v).1,st,l1++chgs q cur v):=by rw [withW,hres]
    refine G_exit ?_
    refine G_seq ?_
    refine g_tidy_A37_0 [0,1,2,3,4,5,7,8,9,10,11,12,13,14,15,25,37] ?_
    refine G_region' (L:=[0,1,2]) rfl ?_
    refine xmv ?_
    refine xmv ?_
    refine x_frameC [7,12,9,3,4,5,6,13,14,15] rfl rfl rfl rfl rfl ca_103 rfl (c_impl_cracking_1B q cur v (totW l1 - totW l) l1 hcur hv ⟨by omega,by omega⟩ (by omega)) ?_
    rintro r S ⟨r0,S0,⟨rfl,rfl⟩,rfl,rfl⟩
    refine EOps_nil ?_
    refine G_seq ?_
    refine G_drawU mixed ?_
    refine u_any 0 [1,2] ⟨?_,?_,?_,trivial⟩
    · refine u_op 0 rfl rfl (EOp_light rfl (by decide) (L_load rfl (xb2 ty_42)) ?_)
      refine u_any 1 [2,3] ⟨?_,?_,?_,trivial⟩
      · refine u_op 1 rfl rfl (EOp_light rfl (by decide) (L_load rfl (xb2 ty_29)) ?_)
        refine u_any 2 [3] ⟨?_,?_,trivial⟩
        · refine u_op 2 rfl rfl (EOp_light rfl (by decide) (L_load rfl (xb2 ty_3)) ?_)
          refine u_any 3 [] ⟨?_,trivial⟩
          refine u_op 3 rfl rfl (EOp_store rfl rfl rfl (xb1 ty_42) ?_)
          refine u_any 4 [] ⟨?_,trivial⟩
          refine u_op 4 rfl rfl (EOp_store rfl rfl rfl (xb1 ty_29) ?_)
          refine up_ 5 rfl (L_assign rfl) ?_
          refine u_done ?_
          refine G_ret ?_
          rw [hW]
          dsimp only
          rw [totW_app,show totW l1+totW (chgs q cur v) - totW l=totW l1 - totW l+totW (chgs q cur v) by omega]
          exact⟨_,[16,17,18],rfl,rfl,rfl,rfl⟩
        refine u_op 3 rfl rfl (EOp_store rfl rfl rfl (xb5 ty_42) ?_)
        refine u_any 2 [4] ⟨?_,?_,trivial⟩
        · refine u_op 2 rfl rfl (EOp_light rfl (by decide) (L_load rfl (xb2 ty_3)) ?_)
          refine u_any 4 [] ⟨?_,trivial⟩
          refine u_op 4 rfl rfl (EOp_store rfl rfl rfl (xb1 ty_29) ?_)
          refine up_ 5 rfl (L_assign rfl) ?_
          refine u_done ?_
          refine G_ret ?_
          rw [hW]
          dsimp only
          rw [totW_app,show totW l1+totW (chgs q cur v) - totW l=totW l1 - totW l+totW (chgs q cur v) by omega]
          exact⟨_,[16,17,18],rfl,rfl,rfl,rfl⟩
        refine u_op 4 rfl rfl (EOp_store rfl rfl rfl (xb5 ty_29) ?_)
        refine u_any 2 [] ⟨?_,trivial⟩
        refine u_op 2 rfl rfl (EOp_light rfl (by decide) (L_load rfl (xb0 ty_3)) ?_)
        refine up_ 5 rfl (L_assign rfl) ?_
        refine u_done ?_
        refine G_ret ?_
        rw [hW]
        dsimp only
        rw [totW_app,show totW l1+totW (chgs q cur v) - totW l=totW l1 - totW l+totW (chgs q cur v) by omega]
        exact⟨_,[16,17,18],rfl,rfl,rfl,rfl⟩
      · refine u_op 2 rfl rfl (EOp_light rfl (by decide) (L_load rfl (xb2 ty_3)) ?_)
        refine u_any 1 [3] ⟨?_,?_,trivial⟩
        · refine u_op 1 rfl rfl (EOp_light rfl (by decide) (L_load rfl (xb2 ty_29)) ?_)
          refine u_any 3 [] ⟨?_,trivial⟩
          refine u_op 3 rfl rfl (EOp_store rfl rfl rfl (xb1 ty_42) ?_)
          refine u_any 4 [] ⟨?_,trivial⟩
          refine u_op 4 rfl rfl (EOp_store rfl rfl rfl (xb1 ty_29) ?_)
          refine up_ 5 rfl (L_assign rfl) ?_
          refine u_done ?_
          refine G_ret ?_
          rw [hW]
          dsimp only
          rw [totW_app,show totW l1+totW (chgs q cur v) - totW l=totW l1 - totW l+totW (chgs q cur v) by omega]
          exact⟨_,[16,17,18],rfl,rfl,rfl,rfl⟩
        refine u_op 3 rfl rfl (EOp_store rfl rfl rfl (xb5 ty_42) ?_)
        refine u_any 1 [] ⟨?_,trivial⟩
        refine u_op 1 rfl rfl (EOp_light rfl (by decide) (L_load rfl (xb0 ty_29)) ?_)
        refine u_any 4 [] ⟨?_,trivial⟩
        refine u_op 4 rfl rfl (EOp_store rfl rfl rfl (xb1 ty_29) ?_)
        refine up_ 5 rfl (L_assign rfl) ?_
        refine u_done ?_
        refine G_ret ?_
        rw [hW]
        dsimp only
        rw [totW_app,show totW l1+totW (chgs q cur v) - totW l=totW l1 - totW l+totW (chgs q cur v) by omega]
        exact⟨_,[16,17,18],rfl,rfl,rfl,rfl⟩
      refine u_op 3 rfl rfl (EOp_store rfl rfl rfl (xb5 ty_42) ?_)
      refine u_any 1 [2] ⟨?_,?_,trivial⟩
      · refine u_op 1 rfl rfl (EOp_light rfl (by decide) (L_load rfl (xb2 ty_29)) ?_)
        refine u_any 2 [4] ⟨?_,?_,trivial⟩
        · refine u_op 2 rfl rfl (EOp_light rfl (by decide) (L_load rfl (xb2 ty_3)) ?_)
          refine u_any 4 [] ⟨?_,trivial⟩
          refine u_op 4 rfl rfl (EOp_store rfl rfl rfl (xb1 ty_29) ?_)
          refine up_ 5 rfl (L_assign rfl) ?_
          refine u_done ?_
          refine G_ret ?_
          rw [hW]
          dsimp only
          rw [totW_app,show totW l1+totW (chgs q cur v) - totW l=totW l1 - totW l+totW (chgs q cur v) by omega]
          exact⟨_,[16,17,18],rfl,rfl,rfl,rfl⟩
        refine u_op 4 rfl rfl (EOp_store rfl rfl rfl (xb5 ty_29) ?_)
        refine u_any 2 [] ⟨?_,trivial⟩
        refine u_op 2 rfl rfl (EOp_light rfl (by decide) (L_load rfl (xb0 ty_3)) ?_)
        refine up_ 5 rfl (L_assign rfl) ?_
        refine u_done ?_
        refine G_ret ?_
        rw [hW]
        dsimp only
        rw [totW_app,show totW l1+totW (chgs q cur v) - totW l=totW l1 - totW l+totW (chgs q cur v) by omega]
        exact⟨_,[16,17,18],rfl,rfl,rfl,rfl⟩
      refine u_op 2 rfl rfl (EOp_light rfl (by decide) (L_load rfl (xb2 ty_3)) ?_)
      refine u_any 1 [] ⟨?_,trivial⟩
      refine u_op 1 rfl rfl (EOp_light rfl (by decide) (L_load rfl (xb0 ty_29)) ?_)
      refine u_any 4 [] ⟨?_,trivial⟩
      refine u_op 4 rfl rfl (EOp_store rfl rfl rfl (xb1 ty_29) ?_)
      refine up_ 5 rfl (L_assign rfl) ?_
      refine u_done ?_
      refine G_ret ?_
      rw [hW]
      dsimp only
      rw [totW_app,show totW l1+totW (chgs q cur v) - totW l=totW l1 - totW l+totW (chgs q cur v) by omega]
      exact⟨_,[16,17,18],rfl,rfl,rfl,rfl⟩
    · refine u_op 1 rfl rfl (EOp_light rfl (by decide) (L_load rfl (xb2 ty_29)) ?_)
      refine u_any 0 [2] ⟨?_,?_,trivial⟩
      · refine u_op 0 rfl rfl (EOp_light rfl (by decide) (L_load rfl (xb2 ty_42)) ?_)
        refine u_any 2 [3] ⟨?_,?_,trivial⟩
        · refine u_op 2 rfl rfl (EOp_light rfl (by decide) (L_load rfl (xb2 ty_3)) ?_)
          refine u_any 3 [] ⟨?_,trivial⟩
          refine u_op 3 rfl rfl (EOp_store rfl rfl rfl (xb1 ty_42) ?_)
          refine u_any 4 [] ⟨?_,trivial⟩
          refine u_op 4 rfl rfl (EOp_store rfl rfl rfl (xb1 ty_29) ?_)
          refine up_ 5 rfl (L_assign rfl) ?_
          refine u_done ?_
          refine G_ret ?_
          rw [hW]
          dsimp only
          rw [totW_app,show totW l1+totW (chgs q cur v) - totW l=totW l1 - totW l+totW (chgs q cur v) by omega]
          exact⟨_,[16,17,18],rfl,rfl,rfl,rfl⟩
        refine u_op 3 rfl rfl (EOp_store rfl rfl rfl (xb5 ty_42) ?_)
        refine u_any 2 [4] ⟨?_,?_,trivial⟩
        · refine u_op 2 rfl rfl (EOp_light rfl (by decide) (L_load rfl (xb2 ty_3)) ?_)
          refine u_any 4 [] ⟨?_,trivial⟩
          refine u_op 4 rfl rfl (EOp_store rfl rfl rfl (xb1 ty_29) ?_)
          refine up_ 5 rfl (L_assign rfl) ?_
          refine u_done ?_
          refine G_ret ?_
          rw [hW]
          dsimp only
          rw [totW_app,show totW l1+totW (chgs q cur v) - totW l=totW l1 - totW l+totW (chgs q cur v) by omega]
          exact⟨_,[16,17,18],rfl,rfl,rfl,rfl⟩
        refine u_op 4 rfl rfl (EOp_store rfl rfl rfl (xb5 ty_29) ?_)
        refine u_any 2 [] ⟨?_,trivial⟩
        refine u_op 2 rfl rfl (EOp_light rfl (by decide) (L_load rfl (xb0 ty_3)) ?_)
        refine up_ 5 rfl (L_assign rfl) ?_
        refine u_done ?_
        refine G_ret ?_
        rw [hW]
        dsimp only
        rw [totW_app,show totW l1+totW (chgs q cur v) - totW l=totW l1 - totW l+totW (chgs q cur v) by omega]
        exact⟨_,[16,17,18],rfl,rfl,rfl,rfl⟩
      refine u_op 2 rfl rfl (EOp_light rfl (by decide) (L_load rfl (xb2 ty_3)) ?_)
      refine u_any 0 [] ⟨?_,trivial⟩
      refine u_op 0 rfl rfl (EOp_light rfl (by decide) (L_load rfl (xb0 ty_42)) ?_)
      refine u_any 3 [] ⟨?_,trivial⟩
      refine u_op 3 rfl rfl (EOp_store rfl rfl rfl (xb1 ty_42) ?_)
      refine u_any 4 [] ⟨?_,trivial⟩
      refine u_op 4 rfl rfl (EOp_store rfl rfl rfl (xb1 ty_29) ?_)
      refine up_ 5 rfl (L_assign rfl) ?_
      refine u_done ?_
      refine G_ret ?_
      rw [hW]
      dsimp only
      rw [totW_app,show totW l1+totW (chgs q cur v) - totW l=totW l1 - totW l+totW (chgs q cur v) by omega]
      exact⟨_,[16,17,18],rfl,rfl,rfl,rfl⟩
    refine u_op 2 rfl rfl (EOp_light rfl (by decide) (L_load rfl (xb2 ty_3)) ?_)
    refine u_any 0 [1] ⟨?_,?_,trivial⟩
    · refine u_op 0 rfl rfl (EOp_light rfl (by decide) (L_load rfl (xb2 ty_42)) ?_)
      refine u_any 1 [3] ⟨?_,?_,trivial⟩
      · refine u_op 1 rfl rfl (EOp_light rfl (by decide) (L_load rfl (xb2 ty_29)) ?_)
        refine u_any 3 [] ⟨?_,trivial⟩
        refine u_op 3 rfl rfl (EOp_store rfl rfl rfl (xb1 ty_42) ?_)
        refine u_any 4 [] ⟨?_,trivial⟩
        refine u_op 4 rfl rfl (EOp_store rfl rfl rfl (xb1 ty_29) ?_)
        refine up_ 5 rfl (L_assign rfl) ?_
        refine u_done ?_
        refine G_ret ?_
        rw [hW]
        dsimp only
        rw [totW_app,show totW l1+totW (chgs q cur v) - totW l=totW l1 - totW l+totW (chgs q cur v) by omega]
        exact⟨_,[16,17,18],rfl,rfl,rfl,rfl⟩
      refine u_op 3 rfl rfl (EOp_store rfl rfl rfl (xb5 ty_42) ?_)
      refine u_any 1 [] ⟨?_,trivial⟩
      refine u_op 1 rfl rfl (EOp_light rfl (by decide) (L_load rfl (xb0 ty_29)) ?_)
      refine u_any 4 [] ⟨?_,trivial⟩
      refine u_op 4 rfl rfl (EOp_store rfl rfl rfl (xb1 ty_29) ?_)
      refine up_ 5 rfl (L_assign rfl) ?_
      refine u_done ?_
      refine G_ret ?_
      rw [hW]
      dsimp only
      rw [totW_app,show totW l1+totW (chgs q cur v) - totW l=totW l1 - totW l+totW (chgs q cur v) by omega]
      exact⟨_,[16,17,18],rfl,rfl,rfl,rfl⟩
    refine u_op 1 rfl rfl (EOp_light rfl (by decide) (L_load rfl (xb2 ty_29)) ?_)
    refine u_any 0 [] ⟨?_,trivial⟩
    refine u_op 0 rfl rfl (EOp_light rfl (by decide) (L_load rfl (xb0 ty_42)) ?_)
    refine u_any 3 [] ⟨?_,trivial⟩
    refine u_op 3 rfl rfl (EOp_store rfl rfl rfl (xb1 ty_42) ?_)
    refine u_any 4 [] ⟨?_,trivial⟩
    refine u_op 4 rfl rfl (EOp_store rfl rfl rfl (xb1 ty_29) ?_)
    refine up_ 5 rfl (L_assign rfl) ?_
    refine u_done ?_
    refine G_ret ?_
    rw [hW]
    dsimp only
    rw [totW_app,show totW l1+totW (chgs q cur v) - totW l=totW l1 - totW l+totW (chgs q cur v) by omega]
    exact⟨_,[16,17,18],rfl,rfl,rfl,rfl⟩
  refine s_ rfl ?_
  refine s_ rfl ?_
  refine s_ rfl ?_
  refine s_ rfl ?_
  refine p_ rfl (L_pick rfl rfl) ?_
  refine EOps_nil ?_
  refine G_cond rfl (fun hc25=>?_) (fun hc25=>?_)
  · exact Bool.noConfusion (hc25:false=true)
  have hst : stopW cur st v = true := by
    rw [stopW]
    first
      | (have h1 : st.pol = 0 := by simpa using hg20
         simp [h1];done)
      | (have h1 : isPv cur.piv v = true := by simpa using hc25
         simp [h1])
  rw [if_pos hst] at hgs
  have hres:goW q v 4000 c s l=(cur,st,l1):=hgo.symm.trans hgs
  have hW:withW q c s v l=((crackC cur v).1,st,l1++chgs q cur v):=by rw [withW,hres]
  refine G_exit ?_
  refine G_seq ?_
  refine g_tidy_A37_0 [0,1,2,3,4,5,7,8,9,10,11,12,13,14,15,25,37] ?_
  refine G_region' (L:=[0,1,2]) rfl ?_
  refine xmv ?_
  refine xmv ?_
  refine x_frameC [7,12,9,3,4,5,6,13,14,15] rfl rfl rfl rfl rfl ca_103 rfl (c_impl_cracking_1B q cur v (totW l1 - totW l) l1 hcur hv ⟨by omega,by omega⟩ (by omega)) ?_
  rintro r S ⟨r0,S0,⟨rfl,rfl⟩,rfl,rfl⟩
  refine EOps_nil ?_
  refine G_seq ?_
  refine G_drawU mixed ?_
  refine u_any 0 [1,2] ⟨?_,?_,?_,trivial⟩
  · refine u_op 0 rfl rfl (EOp_light rfl (by decide) (L_load rfl (xb2 ty_42)) ?_)
    refine u_any 1 [2,3] ⟨?_,?_,?_,trivial⟩
    · refine u_op 1 rfl rfl (EOp_light rfl (by decide) (L_load rfl (xb2 ty_29)) ?_)
      refine u_any 2 [3] ⟨?_,?_,trivial⟩
      · refine u_op 2 rfl rfl (EOp_light rfl (by decide) (L_load rfl (xb2 ty_3)) ?_)
        refine u_any 3 [] ⟨?_,trivial⟩
        refine u_op 3 rfl rfl (EOp_store rfl rfl rfl (xb1 ty_42) ?_)
        refine u_any 4 [] ⟨?_,trivial⟩
        refine u_op 4 rfl rfl (EOp_store rfl rfl rfl (xb1 ty_29) ?_)
        refine up_ 5 rfl (L_assign rfl) ?_
        refine u_done ?_
        refine G_ret ?_
        rw [hW]
        dsimp only
        rw [totW_app,show totW l1+totW (chgs q cur v) - totW l=totW l1 - totW l+totW (chgs q cur v) by omega]
        exact⟨_,[16,17,18],rfl,rfl,rfl,rfl⟩
      refine u_op 3 rfl rfl (EOp_store rfl rfl rfl (xb5 ty_42) ?_)
      refine u_any 2 [4] ⟨?_,?_,trivial⟩
      · refine u_op 2 rfl rfl (EOp_light rfl (by decide) (L_load rfl (xb2 ty_3)) ?_)
        refine u_any 4 [] ⟨?_,trivial⟩
        refine u_op 4 rfl rfl (EOp_store rfl rfl rfl (xb1 ty_29) ?_)
        refine up_ 5 rfl (L_assign rfl) ?_
        refine u_done ?_
        refine G_ret ?_
        rw [hW]
        dsimp only
        rw [totW_app,show totW l1+totW (chgs q cur v) - totW l=totW l1 - totW l+totW (chgs q cur v) by omega]
        exact⟨_,[16,17,18],rfl,rfl,rfl,rfl⟩
      refine u_op 4 rfl rfl (EOp_store rfl rfl rfl (xb5 ty_29) ?_)
      refine u_any 2 [] ⟨?_,trivial⟩
      refine u_op 2 rfl rfl (EOp_light rfl (by decide) (L_load rfl (xb0 ty_3)) ?_)
      refine up_ 5 rfl (L_assign rfl) ?_
      refine u_done ?_
      refine G_ret ?_
      rw [hW]
      dsimp only
      rw [totW_app,show totW l1+totW (chgs q cur v) - totW l=totW l1 - totW l+totW (chgs q cur v) by omega]
      exact⟨_,[16,17,18],rfl,rfl,rfl,rfl⟩
    · refine u_op 2 rfl rfl (EOp_light rfl (by decide) (L_load rfl (xb2 ty_3)) ?_)
      refine u_any 1 [3] ⟨?_,?_,trivial⟩
      · refine u_op 1 rfl rfl (EOp_light rfl (by decide) (L_load rfl (xb2 ty_29)) ?_)
        refine u_any 3 [] ⟨?_,trivial⟩
        refine u_op 3 rfl rfl (EOp_store rfl rfl rfl (xb1 ty_42) ?_)
        refine u_any 4 [] ⟨?_,trivial⟩
        refine u_op 4 rfl rfl (EOp_store rfl rfl rfl (xb1 ty_29) ?_)
        refine up_ 5 rfl (L_assign rfl) ?_
        refine u_done ?_
        refine G_ret ?_
        rw [hW]
        dsimp only
        rw [totW_app,show totW l1+totW (chgs q cur v) - totW l=totW l1 - totW l+totW (chgs q cur v) by omega]
        exact⟨_,[16,17,18],rfl,rfl,rfl,rfl⟩
      refine u_op 3 rfl rfl (EOp_store rfl rfl rfl (xb5 ty_42) ?_)
      refine u_any 1 [] ⟨?_,trivial⟩
      refine u_op 1 rfl rfl (EOp_light rfl (by decide) (L_load rfl (xb0 ty_29)) ?_)
      refine u_any 4 [] ⟨?_,trivial⟩
      refine u_op 4 rfl rfl (EOp_store rfl rfl rfl (xb1 ty_29) ?_)
      refine up_ 5 rfl (L_assign rfl) ?_
      refine u_done ?_
      refine G_ret ?_
      rw [hW]
      dsimp only
      rw [totW_app,show totW l1+totW (chgs q cur v) - totW l=totW l1 - totW l+totW (chgs q cur v) by omega]
      exact⟨_,[16,17,18],rfl,rfl,rfl,rfl⟩
    refine u_op 3 rfl rfl (EOp_store rfl rfl rfl (xb5 ty_42) ?_)
    refine u_any 1 [2] ⟨?_,?_,trivial⟩
    · refine u_op 1 rfl rfl (EOp_light rfl (by decide) (L_load rfl (xb2 ty_29)) ?_)
      refine u_any 2 [4] ⟨?_,?_,trivial⟩
      · refine u_op 2 rfl rfl (EOp_light rfl (by decide) (L_load rfl (xb2 ty_3)) ?_)
        refine u_any 4 [] ⟨?_,trivial⟩
        refine u_op 4 rfl rfl (EOp_store rfl rfl rfl (xb1 ty_29) ?_)
        refine up_ 5 rfl (L_assign rfl) ?_
        refine u_done ?_
        refine G_ret ?_
        rw [hW]
        dsimp only
        rw [totW_app,show totW l1+totW (chgs q cur v) - totW l=totW l1 - totW l+totW (chgs q cur v) by omega]
        exact⟨_,[16,17,18],rfl,rfl,rfl,rfl⟩
      refine u_op 4 rfl rfl (EOp_store rfl rfl rfl (xb5 ty_29) ?_)
      refine u_any 2 [] ⟨?_,trivial⟩
      refine u_op 2 rfl rfl (EOp_light rfl (by decide) (L_load rfl (xb0 ty_3)) ?_)
      refine up_ 5 rfl (L_assign rfl) ?_
      refine u_done ?_
      refine G_ret ?_
      rw [hW]
      dsimp only
      rw [totW_app,show totW l1+totW (chgs q cur v) - totW l=totW l1 - totW l+totW (chgs q cur v) by omega]
      exact⟨_,[16,17,18],rfl,rfl,rfl,rfl⟩
    refine u_op 2 rfl rfl (EOp_light rfl (by decide) (L_load rfl (xb2 ty_3)) ?_)
    refine u_any 1 [] ⟨?_,trivial⟩
    refine u_op 1 rfl rfl (EOp_light rfl (by decide) (L_load rfl (xb0 ty_29)) ?_)
    refine u_any 4 [] ⟨?_,trivial⟩
    refine u_op 4 rfl rfl (EOp_store rfl rfl rfl (xb1 ty_29) ?_)
    refine up_ 5 rfl (L_assign rfl) ?_
    refine u_done ?_
    refine G_ret ?_
    rw [hW]
    dsimp only
    rw [totW_app,show totW l1+totW (chgs q cur v) - totW l=totW l1 - totW l+totW (chgs q cur v) by omega]
    exact⟨_,[16,17,18],rfl,rfl,rfl,rfl⟩
  · refine u_op 1 rfl rfl (EOp_light rfl (by decide) (L_load rfl (xb2 ty_29)) ?_)
    refine u_any 0 [2] ⟨?_,?_,trivial⟩
    · refine u_op 0 rfl rfl (EOp_light rfl (by decide) (L_load rfl (xb2 ty_42)) ?_)
      refine u_any 2 [3] ⟨?_,?_,trivial⟩
      · refine u_op 2 rfl rfl (EOp_light rfl (by decide) (L_load rfl (xb2 ty_3)) ?_)
        refine u_any 3 [] ⟨?_,trivial⟩
        refine u_op 3 rfl rfl (EOp_store rfl rfl rfl (xb1 ty_42) ?_)
        refine u_any 4 [] ⟨?_,trivial⟩
        refine u_op 4 rfl rfl (EOp_store rfl rfl rfl (xb1 ty_29) ?_)
        refine up_ 5 rfl (L_assign rfl) ?_
        refine u_done ?_
        refine G_ret ?_
        rw [hW]
        dsimp only
        rw [totW_app,show totW l1+totW (chgs q cur v) - totW l=totW l1 - totW l+totW (chgs q cur v) by omega]
        exact⟨_,[16,17,18],rfl,rfl,rfl,rfl⟩
      refine u_op 3 rfl rfl (EOp_store rfl rfl rfl (xb5 ty_42) ?_)
      refine u_any 2 [4] ⟨?_,?_,trivial⟩
      · refine u_op 2 rfl rfl (EOp_light rfl (by decide) (L_load rfl (xb2 ty_3)) ?_)
        refine u_any 4 [] ⟨?_,trivial⟩
        refine u_op 4 rfl rfl (EOp_store rfl rfl rfl (xb1 ty_29) ?_)
        refine up_ 5 rfl (L_assign rfl) ?_
        refine u_done ?_
        refine G_ret ?_
        rw [hW]
        dsimp only
        rw [totW_app,show totW l1+totW (chgs q cur v) - totW l=totW l1 - totW l+totW (chgs q cur v) by omega]
        exact⟨_,[16,17,18],rfl,rfl,rfl,rfl⟩
      refine u_op 4 rfl rfl (EOp_store rfl rfl rfl (xb5 ty_29) ?_)
      refine u_any 2 [] ⟨?_,trivial⟩
      refine u_op 2 rfl rfl (EOp_light rfl (by decide) (L_load rfl (xb0 ty_3)) ?_)
      refine up_ 5 rfl (L_assign rfl) ?_
      refine u_done ?_
      refine G_ret ?_
      rw [hW]
      dsimp only
      rw [totW_app,show totW l1+totW (chgs q cur v) - totW l=totW l1 - totW l+totW (chgs q cur v) by omega]
      exact⟨_,[16,17,18],rfl,rfl,rfl,rfl⟩
    refine u_op 2 rfl rfl (EOp_light rfl (by decide) (L_load rfl (xb2 ty_3)) ?_)
    refine u_any 0 [] ⟨?_,trivial⟩
    refine u_op 0 rfl rfl (EOp_light rfl (by decide) (L_load rfl (xb0 ty_42)) ?_)
    refine u_any 3 [] ⟨?_,trivial⟩
    refine u_op 3 rfl rfl (EOp_store rfl rfl rfl (xb1 ty_42) ?_)
    refine u_any 4 [] ⟨?_,trivial⟩
    refine u_op 4 rfl rfl (EOp_store rfl rfl rfl (xb1 ty_29) ?_)
    refine up_ 5 rfl (L_assign rfl) ?_
    refine u_done ?_
    refine G_ret ?_
    rw [hW]
    dsimp only
    rw [totW_app,show totW l1+totW (chgs q cur v) - totW l=totW l1 - totW l+totW (chgs q cur v) by omega]
    exact⟨_,[16,17,18],rfl,rfl,rfl,rfl⟩
  refine u_op 2 rfl rfl (EOp_light rfl (by decide) (L_load rfl (xb2 ty_3)) ?_)
  refine u_any 0 [1] ⟨?_,?_,trivial⟩
  · refine u_op 0 rfl rfl (EOp_light rfl (by decide) (L_load rfl (xb2 ty_42)) ?_)
    refine u_any 1 [3] ⟨?_,?_,trivial⟩
    · refine u_op 1 rfl rfl (EOp_light rfl (by decide) (L_load rfl (xb2 ty_29)) ?_)
      refine u_any 3 [] ⟨?_,trivial⟩
      refine u_op 3 rfl rfl (EOp_store rfl rfl rfl (xb1 ty_42) ?_)
      refine u_any 4 [] ⟨?_,trivial⟩
      refine u_op 4 rfl rfl (EOp_store rfl rfl rfl (xb1 ty_29) ?_)
      refine up_ 5 rfl (L_assign rfl) ?_
      refine u_done ?_
      refine G_ret ?_
      rw [hW]
      dsimp only
      rw [totW_app,show totW l1+totW (chgs q cur v) - totW l=totW l1 - totW l+totW (chgs q cur v) by omega]
      exact⟨_,[16,17,18],rfl,rfl,rfl,rfl⟩
    refine u_op 3 rfl rfl (EOp_store rfl rfl rfl (xb5 ty_42) ?_)
    refine u_any 1 [] ⟨?_,trivial⟩
    refine u_op 1 rfl rfl (EOp_light rfl (by decide) (L_load rfl (xb0 ty_29)) ?_)
    refine u_any 4 [] ⟨?_,trivial⟩
    refine u_op 4 rfl rfl (EOp_store rfl rfl rfl (xb1 ty_29) ?_)
    refine up_ 5 rfl (L_assign rfl) ?_
    refine u_done ?_
    refine G_ret ?_
    rw [hW]
    dsimp only
    rw [totW_app,show totW l1+totW (chgs q cur v) - totW l=totW l1 - totW l+totW (chgs q cur v) by omega]
    exact⟨_,[16,17,18],rfl,rfl,rfl,rfl⟩
  refine u_op 1 rfl rfl (EOp_light rfl (by decide) (L_load rfl (xb2 ty_29)) ?_)
  refine u_any 0 [] ⟨?_,trivial⟩
  refine u_op 0 rfl rfl (EOp_light rfl (by decide) (L_load rfl (xb0 ty_42)) ?_)
  refine u_any 3 [] ⟨?_,trivial⟩
  refine u_op 3 rfl rfl (EOp_store rfl rfl rfl (xb1 ty_42) ?_)
  refine u_any 4 [] ⟨?_,trivial⟩
  refine u_op 4 rfl rfl (EOp_store rfl rfl rfl (xb1 ty_29) ?_)
  refine up_ 5 rfl (L_assign rfl) ?_
  refine u_done ?_
  refine G_ret ?_
  rw [hW]
  dsimp only
  rw [totW_app,show totW l1+totW (chgs q cur v) - totW l=totW l1 - totW l+totW (chgs q cur v) by omega]
  exact⟨_,[16,17,18],rfl,rfl,rfl,rfl⟩

set_option maxRecDepth 20000 in
set_option maxHeartbeats 8000000 in
theorem c_impl_selectingB (q : Int) (c : Crk) (s : Sett) (r : Int × Int) (l : List Qn) (N0 : Nat) (hc : isCrk c = true) (hs : isSet s = true) (hr : isRng r = true) (hl : okL l N0) (h0 : N0 ≤ 480000) : EFn Tryz.prog 65 [.agg (crkO 0 c), .agg (setC s), .agg [.sc (.int .i64 r.1), .sc (.int .i64 r.2)], .c (.fn 66 [.bp 3 0, .bp 4 0])] [.row 3 1 (ints c.vals), .row 3 1 (ints c.rows), .row 87 2 (pairs c.piv), .box [.fn 44 [.bp 5 0]], .box [.sc (.int .i64 q)], .box [.sl 6 0 l.length l.length], .row 76 5 (quints l)] (fun y S => y = .tup [(true, crkO 7 (lw2 q c s r l).1), (true, setC (lw2 q c s r l).2.1), (false, [.sl 10 0 (swR (lw2 q c s r l).1 r).length (swR (lw2 q c s r l).1 r).length]), (false, [.sc (.int .i64 (totW (lw1 q c s r l).2.2 - totW l + (totW (lw2 q c s r l).2.2 - totW (lw1 q c s r l).2.2)))])] ∧ S = [.gone, .gone, .gone, .box [.fn 44 [.bp 5 0]], .box [.sc (.int .i64 q)], .box [.sl 6 0 (lw2 q c s r l).2.2.length (lw2 q c s r l).2.2.length], .row 76 5 (quints (lw2 q c s r l).2.2), .row 3 1 (ints (lw2 q c s r l).1.vals), .row 3 1 (ints (lw2 q c s r l).1.rows), .row 87 2 (pairs (lw2 q c s r l).1.piv), .row 3 1 (ints (swR (lw2 q c s r l).1 r))]) := by
 refine E_fn Tryz.func65 rfl (Nat.le_of_ble_eq_true rfl) ?_
 refine E_G (n:=7) rfl ?_
 obtain⟨b1,b2⟩:=rng_bnd hr
 have hok:=lw_ok (q:=q) hc hs hr hl
 have hcl:=crk_lens hc
 have hc1l:=crk_lens hok.c1
 have hc2l:=crk_lens hok.c2
 have ht1:=okL_tot hok.l1
 have ht2:=okL_tot hok.l2
 have hl1:=hok.l1.1
 have htl:=okL_tot hl
 have htl0:=hl.1
 have hl2:=hok.l2.1
 refine G_seq ?_
 refine G_region' (L:=[0,1,2,3,4,5,6]) rfl ?_
 refine x_box rfl rfl rfl rfl rfl ?_
 refine x_box rfl rfl rfl rfl rfl ?_
 refine x_box rfl rfl rfl rfl rfl ?_
 refine x_alloc rfl rfl rfl rfl za_42 ?_
 refine x_alloc rfl rfl rfl rfl za_29 ?_
 refine xas ?_
 refine xas ?_
 refine EOps_nil ?_
 refine G_seq ?_
 refine g_tidy_A37_0 [0,1,2,3,4,5,6,8,9,10,11] ?_
 refine G_region' (L:=[0,1,2,3,4,5,6,7,8,9,10,11,12]) rfl ?_
 refine l_ rfl (L_load rfl (xb0 ty_42)) ?_
 refine l_ rfl (L_load rfl (xb0 ty_29)) ?_
 refine p_ rfl (l_field rfl fo_49_0) ?_
 refine l_ rfl (L_load rfl (xb0 ty_3)) ?_
 refine xmv ?_
 refine x_frame [0,1,2,3,4,5,6] rfl rfl rfl rfl rfl ca_89 rfl (c_impl_crackingB q c s r.1 l N0 hc hs b1 hl (by omega)) ?_
 rintro r S ⟨r0,S0,⟨rfl,rfl⟩,rfl,rfl⟩
 rw [show (withW q c s r.1 l)=lw1 q c s r l from rfl]
 refine xmv ?_
 refine p_ rfl (L_extract rfl rfl) ?_
 refine p_ rfl (L_extract rfl rfl) ?_
 refine p_ rfl (L_extract rfl rfl) ?_
 refine EOps_go rfl rfl (EOp_store rfl rfl rfl (xb1 ty_42) ?_)
 refine EOps_go rfl rfl (EOp_store rfl rfl rfl (xb1 ty_29) ?_)
 refine xas ?_
 refine EOps_nil ?_
 refine G_seq ?_
 refine g_tidy_A37_0 [0,1,2,3,4,5,6,8,9,10,11,12] ?_
 refine G_region' (L:=[0,1,2,3,4,5,6,7,8,9,10,11,12]) rfl ?_
 refine l_ rfl (L_load rfl (xb0 ty_42)) ?_
 refine l_ rfl (L_load rfl (xb0 ty_29)) ?_
 refine p_ rfl (l_field rfl fo_49_1) ?_
 refine l_ rfl (L_load rfl (xb0 ty_3)) ?_
 refine xmv ?_
 refine x_frame [12,13,14,3,4,5,6] rfl rfl rfl rfl rfl ca_89 rfl (c_impl_crackingB q (lw1 q c s r l).1 (lw1 q c s r l).2.1 r.2 (lw1 q c s r l).2.2 (N0+8001) hok.c1 hok.s1 b2 hok.l1 (by omega)) ?_
 rintro r S ⟨r0,S0,⟨rfl,rfl⟩,rfl,rfl⟩
 rw [show (withW q (lw1 q c s r l).1 (lw1 q c s r l).2.1 r.2 (lw1 q c s r l).2.2)=lw2 q c s r l from rfl]
 refine xmv ?_
 refine p_ rfl (L_extract rfl rfl) ?_
 refine p_ rfl (L_extract rfl rfl) ?_
 refine p_ rfl (L_extract rfl rfl) ?_
 refine EOps_go rfl rfl (EOp_store rfl rfl rfl (xb1 ty_42) ?_)
 refine EOps_go rfl rfl (EOp_store rfl rfl rfl (xb1 ty_29) ?_)
 refine xas ?_
 refine EOps_nil ?_
 refine G_seq ?_
 refine g_tidy_A37_0 [0,1,2,3,4,5,6,8,9,10,11,12,13] ?_
 refine G_region' (L:=[0,1,2,3,4,5,6,7,8]) rfl ?_
 refine l_ rfl (L_load rfl (xb0 ty_42)) ?_
 refine p_ rfl (l_field rfl fo_49_0) ?_
 refine l_ rfl (L_load rfl (xb0 ty_3)) ?_
 refine x_call rfl rfl rfl rfl rfl ca_73 (c_impl_FindPivot (lw2 q c s r l).1 r.1 (by omega)) ?_
 rintro r S ⟨rfl,rfl⟩
 refine xmv ?_
 refine p_ rfl (L_extract rfl rfl) ?_
 refine p_ rfl (L_extract rfl rfl) ?_
 refine xas ?_
 refine xas ?_
 refine EOps_nil ?_
 refine G_seq ?_
 refine g_tidy_A37_0 [0,1,2,3,4,5,6,8,9,10,11,12,13,14] ?_
 refine G_region' (L:=[0,1,2,3,4,5,6,7,8]) rfl ?_
 refine l_ rfl (L_load rfl (xb0 ty_42)) ?_
 refine p_ rfl (l_field rfl fo_49_1) ?_
 refine l_ rfl (L_load rfl (xb0 ty_3)) ?_
 refine x_call rfl rfl rfl rfl rfl ca_73 (c_impl_FindPivot (lw2 q c s r l).1 r.2 (by omega)) ?_
 rintro r S ⟨rfl,rfl⟩
 refine xmv ?_
 refine p_ rfl (L_extract rfl rfl) ?_
 refine p_ rfl (L_extract rfl rfl) ?_
 refine xas ?_
 refine xas ?_
 refine EOps_nil ?_
 refine G_seq ?_
 refine g_tidy_A37_0 [0,1,2,3,4,5,6,8,9,10,11,12,13,14,16] ?_
 refine G_drawD [7,8] mixed ?_
 refine d_pure' 3 rfl rfl rfl (L_move rfl) ?_
 refine d_pure' 4 rfl rfl rfl (L_move rfl) ?_
 refine d_pure' 6 rfl rfl rfl (L_move rfl) ?_
 refine d_pure' 7 rfl rfl rfl (L_move rfl) ?_
 refine d_pure' 8 rfl rfl rfl xb3 ?_
 refine d_load' 0 rfl rfl rfl rfl rfl (d_bp ty_42) ?_
 refine d_load' 1 rfl rfl rfl rfl rfl (d_bp ty_29) ?_
 refine d_load' 2 rfl rfl rfl rfl rfl (d_bp ty_42) ?_
 refine d_any 5 [] ⟨?_,trivial⟩
 refine d_call 5 rfl rfl rfl rfl rfl ca_90 (c_impl_RowsBetween (lw2 q c s r l).1 (fpAt (lw2 q c s r l).1.piv r.1) (fpAt (lw2 q c s r l).1.piv r.2) (by omega)) ?_
 rintro r S ⟨rfl,rfl⟩
 rw [show rowsB (lw2 q c s r l).1 (fpAt (lw2 q c s r l).1.piv r.1) (fpAt (lw2 q c s r l).1.piv r.2)=swR (lw2 q c s r l).1 r from rfl]
 refine d_any 9 [] ⟨?_,trivial⟩
 refine d_store' 9 rfl rfl rfl rfl rfl rfl (s_bp ty_42) ?_
 refine d_any 10 [] ⟨?_,trivial⟩
 refine d_store' 10 rfl rfl rfl rfl rfl rfl (s_bp ty_29) ?_
 refine d_pure' 11 rfl rfl rfl (L_assign rfl) ?_
 refine d_pure' 12 rfl rfl rfl (L_assign rfl) ?_
 refine D_done (by kernel_rfl) ?_
 refine G_ret ?_
 exact⟨_,[15,16,17,18],rfl,rfl,rfl,rfl⟩

end Go.Proofs.YtjbbjicochipeaaGreat.E
