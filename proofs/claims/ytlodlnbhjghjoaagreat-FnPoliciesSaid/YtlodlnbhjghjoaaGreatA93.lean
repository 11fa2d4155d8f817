/- Walks through functions, by program out of the session's annotations. -/
import Derived.Test.YtlodlnbhjghjoaaGreatA91
import Derived.Test.YtlodlnbhjghjoaaGreatA42
namespace Go.Proofs.YtlodlnbhjghjoaaGreat.E
open Go Go.RowKit Go.Proofs
set_option linter.unusedVariables false
set_option linter.unusedSimpArgs false

theorem ty_135:tyIs Tryz.prog 135=some (false,1):=by kernel_rfl

theorem e_tidy_A93_0 {P:Program} {N:Nat} {s:Slots} {R:List Res} {Q:Exit→Slots→List Res→Prop} {c:Code} (keep:List Nat) {base:Slots} {R':List Res} (h:ECode P N c base R' Q) (hb:keepOf s keep=base:=by simp only [E.keepOf,E.get,E.ev,E.cv,E.fill',E.fill,E.slotsOf,Res.sh,AC.sh,AC.sh.shs,AV.sh,E.splice,List.map_cons,List.map_nil,List.cons_append,List.nil_append,List.append_nil,List.length_cons,List.length_nil,List.take_zero,List.drop_zero,List.take_succ_cons,List.drop_succ_cons,List.drop_nil,List.take_nil,List.set_cons_zero,List.set_cons_succ,Nat.zero_add,Nat.add_zero,Nat.reduceAdd,Nat.reduceSub,reduceIte,Nat.reduceEqDiff,E.back,E.backR,E.ix,Res.un,AC.un,AC.un.uns,AV.un,E.un,Option.map_some,Option.map_none,Option.getD_some,List.getElem?_cons_zero,List.getElem?_cons_succ,List.getElem?_nil,crkR,crkO];rfl) (hR:R=R':=by (try simp only [E.keepOf,E.get,E.ev,E.cv,E.fill',E.fill,E.slotsOf,Res.sh,AC.sh,AC.sh.shs,AV.sh,E.splice,List.map_cons,List.map_nil,List.cons_append,List.nil_append,List.append_nil,List.length_cons,List.length_nil,List.take_zero,List.drop_zero,List.take_succ_cons,List.drop_succ_cons,List.drop_nil,List.take_nil,List.set_cons_zero,List.set_cons_succ,Nat.zero_add,Nat.add_zero,Nat.reduceAdd,Nat.reduceSub,reduceIte,Nat.reduceEqDiff,E.back,E.backR,E.ix,Res.un,AC.un,AC.un.uns,AV.un,E.un,Option.map_some,Option.map_none,Option.getD_some,List.getElem?_cons_zero,List.getElem?_cons_succ,List.getElem?_nil,crkR,crkO]);rfl):ECode P N c s R Q:=E_tidy keep hb hR h
theorem g_forD_A93_1 {P : Program} {N n : Nat} {s : Slots} {R : List Res} {Q : Exit → Slots → List Res → Prop} {α : Type} {c : Code} (keep : List Nat) (mods : α → Slots) (Rf : α → List Res) (I : α → Prop) (m : α → Nat) (x0 : α) {base : Slots} (h0 : I x0) (hR : R = Rf x0) (h1 : chk s (mods x0))
  (round:∀ x,I x→GCode P N n c (mods x++base) (Rf x) (EThen (fun s' R'=>∃ σ,okσ n R' σ=true ∧ ∃ y,m y<m x∧I y∧reR n σ R'=Rf y∧chk (renS n σ s') (mods y)∧chk (renS n σ s') base) Q)) (hb:keepOf s keep=base:=by simp only [E.keepOf,E.get,E.ev,E.cv,E.fill',E.fill,E.slotsOf,Res.sh,AC.sh,AC.sh.shs,AV.sh,E.splice,List.map_cons,List.map_nil,List.cons_append,List.nil_append,List.append_nil,List.length_cons,List.length_nil,List.take_zero,List.drop_zero,List.take_succ_cons,List.drop_succ_cons,List.drop_nil,List.take_nil,List.set_cons_zero,List.set_cons_succ,Nat.zero_add,Nat.add_zero,Nat.reduceAdd,Nat.reduceSub,reduceIte,Nat.reduceEqDiff,E.back,E.backR,E.ix,Res.un,AC.un,AC.un.uns,AV.un,E.un,Option.map_some,Option.map_none,Option.getD_some,List.getElem?_cons_zero,List.getElem?_cons_succ,List.getElem?_nil,crkR,crkO];rfl):GCode P N n (.loop c) s R Q:=G_forD keep mods Rf I m x0 hb h0 hR h1 round
theorem g_tidy_A93_2 {P:Program} {N n:Nat} {s:Slots} {R:List Res} {Q:Exit→Slots→List Res→Prop} {c:Code} (keep:List Nat) {base:Slots} {R':List Res} (h:GCode P N n c base R' Q) (hb:keepOf s keep=base:=by simp only [E.keepOf,E.get,E.ev,E.cv,E.fill',E.fill,E.slotsOf,Res.sh,AC.sh,AC.sh.shs,AV.sh,E.splice,List.map_cons,List.map_nil,List.cons_append,List.nil_append,List.append_nil,List.length_cons,List.length_nil,List.take_zero,List.drop_zero,List.take_succ_cons,List.drop_succ_cons,List.drop_nil,List.take_nil,List.set_cons_zero,List.set_cons_succ,Nat.zero_add,Nat.add_zero,Nat.reduceAdd,Nat.reduceSub,reduceIte,Nat.reduceEqDiff,E.back,E.backR,E.ix,Res.un,AC.un,AC.un.uns,AV.un,E.un,Option.map_some,Option.map_none,Option.getD_some,List.getElem?_cons_zero,List.getElem?_cons_succ,List.getElem?_nil,crkR,crkO];rfl) (hR:R=R':=by (try simp only [E.keepOf,E.get,E.ev,E.cv,E.fill',E.fill,E.slotsOf,Res.sh,AC.sh,AC.sh.shs,AV.sh,E.splice,List.map_cons,List.map_nil,List.cons_append,List.nil_append,List.append_nil,List.length_cons,List.length_nil,List.take_zero,List.drop_zero,List.take_succ_cons,List.drop_succ_cons,List.drop_nil,List.take_nil,List.set_cons_zero,List.set_cons_succ,Nat.zero_add,Nat.add_zero,Nat.reduceAdd,Nat.reduceSub,reduceIte,Nat.reduceEqDiff,E.back,E.backR,E.ix,Res.un,AC.un,AC.un.uns,AV.un,E.un,Option.map_some,Option.map_none,Option.getD_some,List.getElem?_cons_zero,List.getElem?_cons_succ,List.getElem?_nil,crkR,crkO]);rfl):GCode P N n c s R Q:=G_tidy keep hb hR h

set_option maxRecDepth 20000 in
set_option maxHeartbeats 2000000 in
theorem c_impl_silent (a b c d : Int) : EFn Tryz.prog 106 [.c (.sc (.int .i64 a)), .c (.sc (.int .i64 b)), .c (.sc (.int .i64 c)), .c (.sc (.int .i64 d))] [] (fun r S => r = .tup [] ∧ S = []) := by
 refine E_fn Tryz.func106 rfl (Nat.le_of_ble_eq_true rfl) ?_
 refine E_skip ?_
 exact⟨_,[],rfl,rfl,rfl,rfl⟩

set_option maxRecDepth 20000 in
set_option maxHeartbeats 2000000 in
theorem c_impl_cracking_1 (c : Crk) (v n : Int) (hc : isCrk c = true) (hv : bnd v = true) (hn : 0 ≤ n ∧ n ≤ 1000000000) : EFn Tryz.prog 187 [.c (.sc (.int .i64 v)), .c (.bp 0 0), .c (.bp 1 0), .c (.bp 2 0)] [.box (crkO 3 c), .box [.sc (.int .i64 n)], .box [.fn 106 []], .row 3 1 (ints c.vals), .row 3 1 (ints c.rows), .row 151 2 (pairs c.piv)] (fun r S => r = .tup [] ∧ S = [.box (crkO 6 (crackC c v).1), .box [.sc (.int .i64 (n + totW (chgs 0 c v)))], .box [.fn 106 []], .gone, .gone, .gone, .row 3 1 (ints (crackC c v).1.vals), .row 3 1 (ints (crackC c v).1.rows), .row 151 2 (pairs (crackC c v).1.piv)]) := by
 refine E_fn Tryz.func187 rfl (Nat.le_of_ble_eq_true rfl) ?_
 have hlc:=crk_lens hc
 have hco:=(crackC_ok hc hv).2
 refine E_moveN' 6 0 0 rfl rfl rfl rfl (ints_len _) (Nat.le_refl _) (ints_all _ rfl) (ints_allSc _) ?_
 refine E_moveN' 7 0 1 rfl rfl rfl rfl (ints_len _) (Nat.le_refl _) (ints_all _ rfl) (ints_allSc _) ?_
 refine E_moveN' 8 0 2 rfl rfl rfl rfl (pairs_len _) (Nat.le_refl _) (pairs_all _ rfl) (pairs_isSc _) ?_
 refine E_seq ?_
 refine E_seq ?_
 refine e_tidy_A93_0 [0,1,2,3] ?_
 refine E_region' (L:=[0,1,2]) rfl ?_
 refine x_light rfl rfl rfl (L_load rfl (xb0 ty_49)) ?_
 refine xmv ?_
 refine x_call rfl rfl rfl rfl rfl ca_132 (c_impl_isPivot c v (by omega)) ?_
 rintro r S ⟨rfl,rfl⟩
 refine EOps_nil ?_
 refine E_cond rfl (fun hc11=>?_) (fun hc11=>?_)
 ·have hp : isPv c.piv v = true := hc11
  have hcr:crackC c v=(c,[]):=by rw [crackC,if_pos hp]
  have hch:totW (chgs 0 c v)=0:=by rw [chgs,if_pos hp];rfl
  refine E_ret ?_
  rw [hch,hcr,Int.add_zero]
  exact⟨_,[6,7,8],rfl,rfl,rfl,rfl⟩
 ·have hp : isPv c.piv v = false := hc11
  have hch:totW (chgs 0 c v)=((crackC c v).2.length:Int):=by rw [chgs,if_neg (by simp [hp])];simp [totW]
  refine E_skip ?_
  refine E_seq ?_
  refine e_tidy_A93_0 [0,1,2,3,11] ?_
  refine E_region' (L:=[0,1,2,3,4,5,6,7]) rfl ?_
  refine x_light rfl rfl rfl (L_load rfl (xb0 ty_49)) ?_
  refine xmv ?_
  refine x_call rfl rfl rfl rfl rfl ca_133 (c_impl_piece c v ⟨by omega,by omega⟩) ?_
  rintro r S ⟨rfl,rfl⟩
  refine xmv ?_
  refine x_pure rfl rfl rfl (L_extract rfl rfl) ?_
  refine x_pure rfl rfl rfl (L_extract rfl rfl) ?_
  refine xas ?_
  refine xas ?_
  refine EOps_nil ?_
  refine E_seq ?_
  refine e_tidy_A93_0 [0,1,2,3,5,6,11] ?_
  refine E_region' (L:=[0,1,2,3,4,5,6,7,8]) rfl ?_
  refine x_light rfl rfl rfl (L_load rfl (xb0 ty_49)) ?_
  refine xmv ?_
  refine x_call rfl rfl rfl rfl rfl ca_134 (c_impl_crack c v hc hv) ?_
  rintro r S ⟨rfl,rfl⟩
  rw [crkT]
  refine xmv ?_
  refine x_pure rfl rfl rfl (L_extract rfl rfl) ?_
  refine x_pure rfl rfl rfl (L_extract rfl rfl) ?_
  refine x_alloc rfl rfl rfl rfl za_49 ?_
  refine EOps_go rfl rfl (EOp_store rfl rfl rfl (xb1 ty_49) ?_)
  refine xas ?_
  refine EOps_nil ?_
  refine E_seq ?_
  refine E_region' (L:=[0,1]) rfl ?_
  refine x_light rfl rfl rfl (L_load rfl (xb0 ty_49)) ?_
  refine EOps_go rfl rfl (EOp_store rfl rfl rfl (xb1 ty_49) ?_)
  refine EOps_nil ?_
  refine E_seq ?_
  refine E_region' (L:=[0,1,2,3,4]) rfl ?_
  refine x_light rfl rfl rfl (L_load rfl (xb0 ty_3)) ?_
  refine xmv ?_
  refine x_pure rfl rfl rfl (l_len rfl sl_156) ?_
  refine x_pure rfl rfl rfl xb3 ?_
  refine EOps_go rfl rfl (EOp_store rfl rfl rfl (xb1 ty_3) ?_)
  refine EOps_nil ?_
  refine e_tidy_A93_0 [0,1,2,3,5,6,7,8,11] ?_
  refine E_region' (L:=[0,1,2,3,4,5,6]) rfl ?_
  refine x_light rfl rfl rfl (L_load rfl (xb0 ty_135)) ?_
  refine xmv ?_
  refine xmv ?_
  refine xmv ?_
  refine xmv ?_
  refine x_pure rfl rfl rfl (l_len rfl sl_156) ?_
  refine x_call rfl rfl rfl rfl rfl ca_106 (c_impl_silent _ _ _ _) ?_
  rintro r S ⟨rfl,rfl⟩
  refine EOps_nil ?_
  rw [hch]
  exact⟨_,[9,10,11],rfl,rfl,rfl,rfl⟩

set_option maxRecDepth 20000 in
set_option maxHeartbeats 8000000 in
theorem c_impl_cracking (c : Crk) (s : Sett) (v : Int) (hc : isCrk c = true) (hs : isSet s = true) (hv : bnd v = true) : EFn Tryz.prog 121 [.agg (crkO 0 c), .agg (setC s), .c (.sc (.int .i64 v)), .c (.fn 106 [])] [.row 3 1 (ints c.vals), .row 3 1 (ints c.rows), .row 151 2 (pairs c.piv)] (fun r S => r = .tup [(true, crkO 3 (withW 0 c s v []).1), (true, setC (withW 0 c s v []).2.1), (false, [.sc (.int .i64 (totW (withW 0 c s v []).2.2))])] ∧ S = [.gone, .gone, .gone, .row 3 1 (ints (withW 0 c s v []).1.vals), .row 3 1 (ints (withW 0 c s v []).1.rows), .row 151 2 (pairs (withW 0 c s v []).1.piv)]) := by
  refine E_fn Tryz.func121 rfl (Nat.le_of_ble_eq_true rfl) ?_
  refine E_G (n:=3) rfl ?_
  refine G_seq ?_
  refine G_region' (L:=[0,1,2,3,4,5]) rfl ?_
  refine x_box rfl rfl rfl rfl rfl ?_
  refine x_box rfl rfl rfl rfl rfl ?_
  refine x_box rfl rfl rfl rfl rfl ?_
  refine x_alloc rfl rfl rfl rfl za_49 ?_
  refine x_alloc rfl rfl rfl rfl za_30 ?_
  refine xas ?_
  refine EOps_nil ?_
  refine G_seq ?_
  refine G_region' (L:=[0,1]) rfl ?_
  refine x_alloc rfl rfl rfl rfl za_3 ?_
  refine EOps_go rfl rfl (EOp_store rfl rfl rfl (xb1 ty_3) ?_)
  refine EOps_nil ?_
  refine G_seq ?_
  refine G_region' (L:=[0,1]) rfl ?_
  refine x_pure rfl rfl rfl (L_func rfl rfl) ?_
  refine xas ?_
  refine EOps_nil ?_
  refine G_seq ?_
  refine G_block ?_
  refine G_moveN' 9 3 0 rfl rfl rfl rfl (ints_len _) (Nat.le_refl _) (ints_all _ rfl) (ints_allSc _) ?_
  refine G_moveN' 10 3 1 rfl rfl rfl rfl (ints_len _) (Nat.le_refl _) (ints_all _ rfl) (ints_allSc _) ?_
  refine G_moveN' 11 3 2 rfl rfl rfl rfl (pairs_len _) (Nat.le_refl _) (pairs_all _ rfl) (pairs_isSc _) ?_
  refine g_forD_A93_1 (α:=Nat × Crk × Sett × List Qn) [0,1,2,3,4,5,7,8,9,10,11,12] (fun (f,cur,st,l1)=>[]) (fun (f,cur,st,l1)=>[.gone,.gone,.gone,.box (crkO 9 cur),.box (setC st),.box [.fn 106 []],.box [.sc (.slice none 0 0),.sc (.slice none 0 0),.sc (.slice none 0 0)],.box [.sc (.int .i64 0),.sc (.int .i64 0),.sc (.int .i64 0)],.box [.sc (.int .i64 (totW l1))],.row 3 1 (ints cur.vals),.row 3 1 (ints cur.rows),.row 151 2 (pairs cur.piv)]) (fun (f,cur,st,l1)=>isCrk cur=true∧isSet st=true∧goW 0 v f cur st l1=goW 0 v 4000 c s []∧2001<f+cur.piv.length∧f≤4000∧okL l1 (2*(4000 - f))) (fun (f,cur,st,l1)=>f) ((4000,c,s,[])) ?_ (rfl) trivial ?_
  · exact⟨hc,hs,rfl,by first|omega|(dsimp only;omega),by first|omega|(dsimp only;omega),okL_nil _⟩
  rintro⟨f,cur,st,l1⟩ ⟨hcur,hset,hgo,hfu,hf4,hok⟩
  dsimp only at *
  have hlc:=crk_lens hcur
  obtain⟨f',rfl⟩:∃ f',f=f'+1:=⟨f - 1,by omega⟩
  have hpb:=pc_bounds hcur v
  obtain⟨a,ha⟩:∃ a:Nat,pcFrom cur.piv v=a:=⟨_,(Int.toNat_of_nonneg hpb.1).symm⟩
  obtain⟨b,hbb⟩:∃ b:Nat,pcTo cur.piv cur.vals.length v=b:=⟨_,(Int.toNat_of_nonneg (by omega)).symm⟩
  have hpc:pcT cur v = .tup [(false,[.sc (.int .i64 (a:Int))]),(false,[.sc (.int .i64 (b:Int))])]:=by rw [pcT,ha,hbb]
  have hgs:goW 0 v (f'+1) cur st l1=if stopW cur st v=true then (cur,st,l1) else goW 0 v f' (stepW cur st v) (setN st) (l1++chgs 0 cur (chW cur st v)++chgs 0 (crackC cur (chW cur st v)).1 (chW cur st v+1)):=rfl
  have hsp:=set_parts hset
  have hl1:=hok.1
  have ht1:=okL_tot hok
  refine G_seq ?_
  refine G_seq ?_
  refine g_tidy_A93_2 [0,1,2,3,4,5,7,8,9,10,11,12,13,14,15,25,37] ?_
  refine G_region' (L:=[0,1,2,3,4,5,6,7,8]) rfl ?_
  refine x_pure rfl rfl rfl (l_field rfl fo_30_0) ?_
  refine x_light rfl rfl rfl (L_load rfl (xb0 ty_3)) ?_
  refine x_pure rfl rfl rfl (L_bin rfl rfl rfl rfl) ?_
  refine xmv ?_
  refine EOps_split 20 (b:=_) rfl (fun hg20=>?_) (fun hg20=>?_)
  · refine x_light rfl rfl rfl (L_load rfl (xb2 ty_49)) ?_
    refine xmv ?_
    refine x_call rfl rfl rfl rfl rfl ca_132 (c_impl_isPivot cur v (by omega)) ?_
    rintro r S ⟨rfl,rfl⟩
    refine x_pure rfl rfl rfl (L_not rfl rfl) ?_
    refine x_pure rfl rfl rfl (L_pick rfl rfl) ?_
    refine EOps_nil ?_
    refine G_cond rfl (fun hc25=>?_) (fun hc25=>?_)
    · refine G_skip ?_
      refine G_block ?_
      refine G_seq ?_
      refine g_tidy_A93_2 [0,1,2,3,4,5,7,8,9,10,11,12,13,14,15,25,37] ?_
      refine G_region' (L:=[0,1,2,3,4,5,6,7]) rfl ?_
      refine x_light rfl rfl rfl (L_load rfl (xb0 ty_49)) ?_
      refine xmv ?_
      refine x_call rfl rfl rfl rfl rfl ca_133 (c_impl_piece cur v ⟨by omega,by omega⟩) ?_
      rintro r S ⟨rfl,rfl⟩
      rw [hpc]
      refine xmv ?_
      refine x_pure rfl rfl rfl (L_extract rfl rfl) ?_
      refine x_pure rfl rfl rfl (L_extract rfl rfl) ?_
      refine xas ?_
      refine xas ?_
      refine EOps_nil ?_
      refine G_seq ?_
      refine G_seq ?_
      refine G_region' (L:=[0,1,2,3,4,5]) rfl ?_
      refine xmv ?_
      refine xmv ?_
      refine x_pure rfl rfl rfl xb5 ?_
      refine x_pure rfl rfl rfl (l_field rfl fo_30_1) ?_
      refine x_light rfl rfl rfl (L_load rfl (xb0 ty_3)) ?_
      refine x_pure rfl rfl rfl (L_bin rfl rfl rfl rfl) ?_
      refine EOps_nil ?_
      refine G_cond rfl (fun hc37=>?_) (fun hc37=>?_)
      · have hst : stopW cur st v = true := by
          have h1:(b:Int) - a≤st.thr:=by simpa using hc37
          rw [stopW,ha,hbb]
          simp [h1]
        rw [if_pos hst] at hgs
        have hres:goW 0 v 4000 c s []=(cur,st,l1):=hgo.symm.trans hgs
        have hW:withW 0 c s v []=((crackC cur v).1,st,l1++chgs 0 cur v):=by rw [withW,hres]
        refine G_exit ?_
        refine G_seq ?_
        refine g_tidy_A93_2 [0,1,2,3,4,5,7,8,9,10,11,12,13,14,15,25,37] ?_
        refine G_region' (L:=[0,1,2]) rfl ?_
        refine xmv ?_
        refine xmv ?_
        refine x_frameC [3,8,5,9,10,11] rfl rfl rfl rfl rfl ca_187 rfl (c_impl_cracking_1 cur v (totW l1) hcur hv ⟨by omega,by omega⟩) ?_
        rintro r S ⟨r0,S0,⟨rfl,rfl⟩,rfl,rfl⟩
        refine EOps_nil ?_
        refine G_seq ?_
        refine G_drawU mixed ?_
        refine u_any 0 [1,2] ⟨?_,?_,?_,trivial⟩
        · refine u_op 0 rfl rfl (EOp_light rfl (by decide) (L_load rfl (xb2 ty_49)) ?_)
          refine u_any 1 [2,3] ⟨?_,?_,?_,trivial⟩
          · refine u_op 1 rfl rfl (EOp_light rfl (by decide) (L_load rfl (xb2 ty_30)) ?_)
            refine u_any 2 [3] ⟨?_,?_,trivial⟩
            · refine u_op 2 rfl rfl (EOp_light rfl (by decide) (L_load rfl (xb2 ty_3)) ?_)
              refine u_any 3 [] ⟨?_,trivial⟩
              refine u_op 3 rfl rfl (EOp_store rfl rfl rfl (xb1 ty_49) ?_)
              refine u_any 4 [] ⟨?_,trivial⟩
              refine u_op 4 rfl rfl (EOp_store rfl rfl rfl (xb1 ty_30) ?_)
              refine u_pure 5 rfl rfl rfl (L_assign rfl) ?_
              refine u_done ?_
              refine G_ret ?_
              rw [hW,totW_app]
              exact⟨_,[12,13,14],rfl,rfl,rfl,rfl⟩
            · refine u_op 3 rfl rfl (EOp_store rfl rfl rfl (xb6 ty_49) ?_)
              refine u_any 2 [4] ⟨?_,?_,trivial⟩
              · refine u_op 2 rfl rfl (EOp_light rfl (by decide) (L_load rfl (xb2 ty_3)) ?_)
                refine u_any 4 [] ⟨?_,trivial⟩
                refine u_op 4 rfl rfl (EOp_store rfl rfl rfl (xb1 ty_30) ?_)
                refine u_pure 5 rfl rfl rfl (L_assign rfl) ?_
                refine u_done ?_
                refine G_ret ?_
                rw [hW,totW_app]
                exact⟨_,[12,13,14],rfl,rfl,rfl,rfl⟩
              · refine u_op 4 rfl rfl (EOp_store rfl rfl rfl (xb6 ty_30) ?_)
                refine u_any 2 [] ⟨?_,trivial⟩
                refine u_op 2 rfl rfl (EOp_light rfl (by decide) (L_load rfl (xb0 ty_3)) ?_)
                refine u_pure 5 rfl rfl rfl (L_assign rfl) ?_
                refine u_done ?_
                refine G_ret ?_
                rw [hW,totW_app]
                exact⟨_,[12,13,14],rfl,rfl,rfl,rfl⟩
          · refine u_op 2 rfl rfl (EOp_light rfl (by decide) (L_load rfl (xb2 ty_3)) ?_)
            refine u_any 1 [3] ⟨?_,?_,trivial⟩
            · refine u_op 1 rfl rfl (EOp_light rfl (by decide) (L_load rfl (xb2 ty_30)) ?_)
              refine u_any 3 [] ⟨?_,trivial⟩
              refine u_op 3 rfl rfl (EOp_store rfl rfl rfl (xb1 ty_49) ?_)
              refine u_any 4 [] ⟨?_,trivial⟩
              refine u_op 4 rfl rfl (EOp_store rfl rfl rfl (xb1 ty_30) ?_)
              refine u_pure 5 rfl rfl rfl (L_assign rfl) ?_
              refine u_done ?_
              refine G_ret ?_
              rw [hW,totW_app]
              exact⟨_,[12,13,14],rfl,rfl,rfl,rfl⟩
            · refine u_op 3 rfl rfl (EOp_store rfl rfl rfl (xb6 ty_49) ?_)
              refine u_any 1 [] ⟨?_,trivial⟩
              refine u_op 1 rfl rfl (EOp_light rfl (by decide) (L_load rfl (xb0 ty_30)) ?_)
              refine u_any 4 [] ⟨?_,trivial⟩
              refine u_op 4 rfl rfl (EOp_store rfl rfl rfl (xb1 ty_30) ?_)
              refine u_pure 5 rfl rfl rfl (L_assign rfl) ?_
              refine u_done ?_
              refine G_ret ?_
              rw [hW,totW_app]
              exact⟨_,[12,13,14],rfl,rfl,rfl,rfl⟩
          · refine u_op 3 rfl rfl (EOp_store rfl rfl rfl (xb6 ty_49) ?_)
            refine u_any 1 [2] ⟨?_,?_,trivial⟩
            · refine u_op 1 rfl rfl (EOp_light rfl (by decide) (L_load rfl (xb2 ty_30)) ?_)
              refine u_any 2 [4] ⟨?_,?_,trivial⟩
              · refine u_op 2 rfl rfl (EOp_light rfl (by decide) (L_load rfl (xb2 ty_3)) ?_)
                refine u_any 4 [] ⟨?_,trivial⟩
                refine u_op 4 rfl rfl (EOp_store rfl rfl rfl (xb1 ty_30) ?_)
                refine u_pure 5 rfl rfl rfl (L_assign rfl) ?_
                refine u_done ?_
                refine G_ret ?_
                rw [hW,totW_app]
                exact⟨_,[12,13,14],rfl,rfl,rfl,rfl⟩
              · refine u_op 4 rfl rfl (EOp_store rfl rfl rfl (xb6 ty_30) ?_)
                refine u_any 2 [] ⟨?_,trivial⟩
                refine u_op 2 rfl rfl (EOp_light rfl (by decide) (L_load rfl (xb0 ty_3)) ?_)
                refine u_pure 5 rfl rfl rfl (L_assign rfl) ?_
                refine u_done ?_
                refine G_ret ?_
                rw [hW,totW_app]
                exact⟨_,[12,13,14],rfl,rfl,rfl,rfl⟩
            · refine u_op 2 rfl rfl (EOp_light rfl (by decide) (L_load rfl (xb2 ty_3)) ?_)
              refine u_any 1 [] ⟨?_,trivial⟩
              refine u_op 1 rfl rfl (EOp_light rfl (by decide) (L_load rfl (xb0 ty_30)) ?_)
              refine u_any 4 [] ⟨?_,trivial⟩
              refine u_op 4 rfl rfl (EOp_store rfl rfl rfl (xb1 ty_30) ?_)
              refine u_pure 5 rfl rfl rfl (L_assign rfl) ?_
              refine u_done ?_
              refine G_ret ?_
              rw [hW,totW_app]
              exact⟨_,[12,13,14],rfl,rfl,rfl,rfl⟩
        · refine u_op 1 rfl rfl (EOp_light rfl (by decide) (L_load rfl (xb2 ty_30)) ?_)
          refine u_any 0 [2] ⟨?_,?_,trivial⟩
          · refine u_op 0 rfl rfl (EOp_light rfl (by decide) (L_load rfl (xb2 ty_49)) ?_)
            refine u_any 2 [3] ⟨?_,?_,trivial⟩
            · refine u_op 2 rfl rfl (EOp_light rfl (by decide) (L_load rfl (xb2 ty_3)) ?_)
              refine u_any 3 [] ⟨?_,trivial⟩
              refine u_op 3 rfl rfl (EOp_store rfl rfl rfl (xb1 ty_49) ?_)
              refine u_any 4 [] ⟨?_,trivial⟩
              refine u_op 4 rfl rfl (EOp_store rfl rfl rfl (xb1 ty_30) ?_)
              refine u_pure 5 rfl rfl rfl (L_assign rfl) ?_
              refine u_done ?_
              refine G_ret ?_
              rw [hW,totW_app]
              exact⟨_,[12,13,14],rfl,rfl,rfl,rfl⟩
            · refine u_op 3 rfl rfl (EOp_store rfl rfl rfl (xb6 ty_49) ?_)
              refine u_any 2 [4] ⟨?_,?_,trivial⟩
              · refine u_op 2 rfl rfl (EOp_light rfl (by decide) (L_load rfl (xb2 ty_3)) ?_)
                refine u_any 4 [] ⟨?_,trivial⟩
                refine u_op 4 rfl rfl (EOp_store rfl rfl rfl (xb1 ty_30) ?_)
                refine u_pure 5 rfl rfl rfl (L_assign rfl) ?_
                refine u_done ?_
                refine G_ret ?_
                rw [hW,totW_app]
                exact⟨_,[12,13,14],rfl,rfl,rfl,rfl⟩
              · refine u_op 4 rfl rfl (EOp_store rfl rfl rfl (xb6 ty_30) ?_)
                refine u_any 2 [] ⟨?_,trivial⟩
                refine u_op 2 rfl rfl (EOp_light rfl (by decide) (L_load rfl (xb0 ty_3)) ?_)
                refine u_pure 5 rfl rfl rfl (L_assign rfl) ?_
                refine u_done ?_
                refine G_ret ?_
                rw [hW,totW_app]
                exact⟨_,[12,13,14],rfl,rfl,rfl,rfl⟩
          · refine u_op 2 rfl rfl (EOp_light rfl (by decide) (L_load rfl (xb2 ty_3)) ?_)
            refine u_any 0 [] ⟨?_,trivial⟩
            refine u_op 0 rfl rfl (EOp_light rfl (by decide) (L_load rfl (xb0 ty_49)) ?_)
            refine u_any 3 [] ⟨?_,trivial⟩
            refine u_op 3 rfl rfl (EOp_store rfl rfl rfl (xb1 ty_49) ?_)
            refine u_any 4 [] ⟨?_,trivial⟩
            refine u_op 4 rfl rfl (EOp_store rfl rfl rfl (xb1 ty_30) ?_)
            refine u_pure 5 rfl rfl rfl (L_assign rfl) ?_
            refine u_done ?_
            refine G_ret ?_
            rw [hW,totW_app]
            exact⟨_,[12,13,14],rfl,rfl,rfl,rfl⟩
        · refine u_op 2 rfl rfl (EOp_light rfl (by decide) (L_load rfl (xb2 ty_3)) ?_)
          refine u_any 0 [1] ⟨?_,?_,trivial⟩
          · refine u_op 0 rfl rfl (EOp_light rfl (by decide) (L_load rfl (xb2 ty_49)) ?_)
            refine u_any 1 [3] ⟨?_,?_,trivial⟩
            · refine u_op 1 rfl rfl (EOp_light rfl (by decide) (L_load rfl (xb2 ty_30)) ?_)
              refine u_any 3 [] ⟨?_,trivial⟩
              refine u_op 3 rfl rfl (EOp_store rfl rfl rfl (xb1 ty_49) ?_)
              refine u_any 4 [] ⟨?_,trivial⟩
              refine u_op 4 rfl rfl (EOp_store rfl rfl rfl (xb1 ty_30) ?_)
              refine u_pure 5 rfl rfl rfl (L_assign rfl) ?_
              refine u_done ?_
              refine G_ret ?_
              rw [hW,totW_app]
              exact⟨_,[12,13,14],rfl,rfl,rfl,rfl⟩
            · refine u_op 3 rfl rfl (EOp_store rfl rfl rfl (xb6 ty_49) ?_)
              refine u_any 1 [] ⟨?_,trivial⟩
              refine u_op 1 rfl rfl (EOp_light rfl (by decide) (L_load rfl (xb0 ty_30)) ?_)
              refine u_any 4 [] ⟨?_,trivial⟩
              refine u_op 4 rfl rfl (EOp_store rfl rfl rfl (xb1 ty_30) ?_)
              refine u_pure 5 rfl rfl rfl (L_assign rfl) ?_
              refine u_done ?_
              refine G_ret ?_
              rw [hW,totW_app]
              exact⟨_,[12,13,14],rfl,rfl,rfl,rfl⟩
          · refine u_op 1 rfl rfl (EOp_light rfl (by decide) (L_load rfl (xb2 ty_30)) ?_)
            refine u_any 0 [] ⟨?_,trivial⟩
            refine u_op 0 rfl rfl (EOp_light rfl (by decide) (L_load rfl (xb0 ty_49)) ?_)
            refine u_any 3 [] ⟨?_,trivial⟩
            refine u_op 3 rfl rfl (EOp_store rfl rfl rfl (xb1 ty_49) ?_)
            refine u_any 4 [] ⟨?_,trivial⟩
            refine u_op 4 rfl rfl (EOp_store rfl rfl rfl (xb1 ty_30) ?_)
            refine u_pure 5 rfl rfl rfl (L_assign rfl) ?_
            refine u_done ?_
            refine G_ret ?_
            rw [hW,totW_app]
            exact⟨_,[12,13,14],rfl,rfl,rfl,rfl⟩
      · have hst : stopW cur st v = false := by
          have h1:isPv cur.piv v=false:=by simpa using hc25
          have h2:¬ st.pol=0:=by simpa using hg20
          have h3:¬ (b:Int) - a≤st.thr:=by simpa using hc37
          rw [stopW,ha,hbb]
          simp [h1,h2,h3]
        obtain⟨hab,bm,bm1,k1,k2,k3⟩:=stepW_ok hcur hset hst
        rw [if_neg (by simp [hst])] at hgs
        have hchw:chW cur st v=chP cur st a b:=by rw [chW,ha,hbb]
        have hsw:stepW cur st v=(crackC (crackC cur (chP cur st a b)).1 (chP cur st a b+1)).1:=by rw [stepW,hchw]
        rw [hsw,hchw] at hgs
        rw [hsw] at k2 k3
        rw [hchw] at bm bm1 k1
        rw [ha,hbb] at hab
        refine G_skip ?_
        refine G_seq ?_
        refine G_region' (L:=[0]) rfl ?_
        refine xas ?_
        refine EOps_nil ?_
        refine G_seq ?_
        refine g_tidy_A93_2 [0,1,2,3,4,5,7,8,9,10,11,12,13,14,15,25,37] ?_
        refine G_region' (L:=[0,1,2,3,4,5,6,7,8,9]) rfl ?_
        refine x_light rfl rfl rfl (L_load rfl (xb0 ty_49)) ?_
        refine x_light rfl rfl rfl (L_load rfl (xb0 ty_30)) ?_
        refine xmv ?_
        refine xmv ?_
        refine x_call rfl rfl rfl rfl rfl ca_188 (c_impl_ChoosePivot cur st a b hcur hset (by omega)) ?_
        rintro r S ⟨rfl,rfl⟩
        generalize chP cur st a b=md at *
        have hmb:-1000≤md∧md≤1000:=by simpa [bnd,isIn] using bm
        have o1:=chgs_ok (q:=0) hcur bm
        have o2:=chgs_ok (q:=0) k1 bm1
        have hol:=okL_app (okL_app hok o1) o2
        have hol1:=(okL_app hok o1).1
        have ht2:=okL_tot o1
        have hl2:=o1.1
        refine xmv ?_
        refine x_pure rfl rfl rfl (L_extract rfl rfl) ?_
        refine x_pure rfl rfl rfl (L_extract rfl rfl) ?_
        refine xas ?_
        refine EOps_go rfl rfl (EOp_store rfl rfl rfl (xb1 ty_30) ?_)
        refine EOps_nil ?_
        refine G_seq ?_
        refine g_tidy_A93_2 [0,1,2,3,4,5,7,8,9,10,11,12,13,14,15,25,37] ?_
        refine G_region' (L:=[0,1,2]) rfl ?_
        refine xmv ?_
        refine xmv ?_
        refine x_frameC [3,8,5,9,10,11] rfl rfl rfl rfl rfl ca_187 rfl (c_impl_cracking_1 cur md (totW l1) hcur bm ⟨by omega,by omega⟩) ?_
        rintro r S ⟨r0,S0,⟨rfl,rfl⟩,rfl,rfl⟩
        generalize chgs 0 cur md=L1 at *
        generalize crackC cur md=P at *
        obtain⟨c1,s1⟩:=P
        dsimp only at *
        refine EOps_nil ?_
        refine g_tidy_A93_2 [0,1,2,3,4,5,7,8,9,10,11,12,13,14,15,25,37] ?_
        refine G_region' (L:=[0,1,2,3]) rfl ?_
        refine xmv ?_
        refine xmv ?_
        refine x_pure rfl rfl rfl xb3 ?_
        refine x_frameC [3,8,5,12,13,14] rfl rfl rfl rfl rfl ca_187 rfl (c_impl_cracking_1 c1 (md+1) (totW l1+totW L1) k1 bm1 ⟨by omega,by omega⟩) ?_
        rintro r S ⟨r0,S0,⟨rfl,rfl⟩,rfl,rfl⟩
        generalize chgs 0 c1 (md+1)=L2 at *
        generalize crackC c1 (md+1)=P at *
        obtain⟨c2,s2⟩:=P
        dsimp only at *
        refine EOps_nil ?_
        refine⟨[3,4,5,6,7,8,15,16,17],rfl,(f',c2,setN st,l1++L1++L2),?_,?_,(by simp only [totW_app];rfl),trivial,⟨.inr rfl,.inr rfl,.inr rfl,.inr rfl,.inr rfl,.inr rfl,.inr rfl,.inr rfl,.inr rfl,.inr rfl,.inr rfl,.inr rfl,trivial⟩⟩
        · first|omega|(dsimp only;omega)|(simp;omega)
        · exact⟨k2,setN_ok hset,hgs.symm.trans hgo,by dsimp only;omega,by dsimp only;omega,okL_mono (okL_mono hol (Nat.le_refl _)) (by dsimp only;omega)⟩
    · have hst : stopW cur st v = true := by
        rw [stopW]
        first
          | (have h1 : st.pol = 0 := by simpa using hg20
             simp [h1];done)
          | (have h1 : isPv cur.piv v = true := by simpa using hc25
             simp [h1])
      rw [if_pos hst] at hgs
      have hres:goW 0 v 4000 c s []=(cur,st,l1):=hgo.symm.trans hgs
      have hW:withW 0 c s v []=((crackC cur v).1,st,l1++chgs 0 cur v):=by rw [withW,hres]
      refine G_exit ?_
      refine G_seq ?_
      refine g_tidy_A93_2 [0,1,2,3,4,5,7,8,9,10,11,12,13,14,15,25,37] ?_
      refine G_region' (L:=[0,1,2]) rfl ?_
      refine xmv ?_
      refine xmv ?_
      refine x_frameC [3,8,5,9,10,11] rfl rfl rfl rfl rfl ca_187 rfl (c_impl_cracking_1 cur v (totW l1) hcur hv ⟨by omega,by omega⟩) ?_
      rintro r S ⟨r0,S0,⟨rfl,rfl⟩,rfl,rfl⟩
      refine EOps_nil ?_
      refine G_seq ?_
      refine G_drawU mixed ?_
      refine u_any 0 [1,2] ⟨?_,?_,?_,trivial⟩
      · refine u_op 0 rfl rfl (EOp_light rfl (by decide) (L_load rfl (xb2 ty_49)) ?_)
        refine u_any 1 [2,3] ⟨?_,?_,?_,trivial⟩
        · refine u_op 1 rfl rfl (EOp_light rfl (by decide) (L_load rfl (xb2 ty_30)) ?_)
          refine u_any 2 [3] ⟨?_,?_,trivial⟩
          · refine u_op 2 rfl rfl (EOp_light rfl (by decide) (L_load rfl (xb2 ty_3)) ?_)
            refine u_any 3 [] ⟨?_,trivial⟩
            refine u_op 3 rfl rfl (EOp_store rfl rfl rfl (xb1 ty_49) ?_)
            refine u_any 4 [] ⟨?_,trivial⟩
            refine u_op 4 rfl rfl (EOp_store rfl rfl rfl (xb1 ty_30) ?_)
            refine u_pure 5 rfl rfl rfl (L_assign rfl) ?_
            refine u_done ?_
            refine G_ret ?_
            rw [hW,totW_app]
            exact⟨_,[12,13,14],rfl,rfl,rfl,rfl⟩
          · refine u_op 3 rfl rfl (EOp_store rfl rfl rfl (xb6 ty_49) ?_)
            refine u_any 2 [4] ⟨?_,?_,trivial⟩
            · refine u_op 2 rfl rfl (EOp_light rfl (by decide) (L_load rfl (xb2 ty_3)) ?_)
              refine u_any 4 [] ⟨?_,trivial⟩
              refine u_op 4 rfl rfl (EOp_store rfl rfl rfl (xb1 ty_30) ?_)
              refine u_pure 5 rfl rfl rfl (L_assign rfl) ?_
              refine u_done ?_
              refine G_ret ?_
              rw [hW,totW_app]
              exact⟨_,[12,13,14],rfl,rfl,rfl,rfl⟩
            · refine u_op 4 rfl rfl (EOp_store rfl rfl rfl (xb6 ty_30) ?_)
              refine u_any 2 [] ⟨?_,trivial⟩
              refine u_op 2 rfl rfl (EOp_light rfl (by decide) (L_load rfl (xb0 ty_3)) ?_)
              refine u_pure 5 rfl rfl rfl (L_assign rfl) ?_
              refine u_done ?_
              refine G_ret ?_
              rw [hW,totW_app]
              exact⟨_,[12,13,14],rfl,rfl,rfl,rfl⟩
        · refine u_op 2 rfl rfl (EOp_light rfl (by decide) (L_load rfl (xb2 ty_3)) ?_)
          refine u_any 1 [3] ⟨?_,?_,trivial⟩
          · refine u_op 1 rfl rfl (EOp_light rfl (by decide) (L_load rfl (xb2 ty_30)) ?_)
            refine u_any 3 [] ⟨?_,trivial⟩
            refine u_op 3 rfl rfl (EOp_store rfl rfl rfl (xb1 ty_49) ?_)
            refine u_any 4 [] ⟨?_,trivial⟩
            refine u_op 4 rfl rfl (EOp_store rfl rfl rfl (xb1 ty_30) ?_)
            refine u_pure 5 rfl rfl rfl (L_assign rfl) ?_
            refine u_done ?_
            refine G_ret ?_
            rw [hW,totW_app]
            exact⟨_,[12,13,14],rfl,rfl,rfl,rfl⟩
          · refine u_op 3 rfl rfl (EOp_store rfl rfl rfl (xb6 ty_49) ?_)
            refine u_any 1 [] ⟨?_,trivial⟩
            refine u_op 1 rfl rfl (EOp_light rfl (by decide) (L_load rfl (xb0 ty_30)) ?_)
            refine u_any 4 [] ⟨?_,trivial⟩
            refine u_op 4 rfl rfl (EOp_store rfl rfl rfl (xb1 ty_30) ?_)
            refine u_pure 5 rfl rfl rfl (L_assign rfl) ?_
            refine u_done ?_
            refine G_ret ?_
            rw [hW,totW_app]
            exact⟨_,[12,13,14],rfl,rfl,rfl,rfl⟩
        · refine u_op 3 rfl rfl (EOp_store rfl rfl rfl (xb6 ty_49) ?_)
          refine u_any 1 [2] ⟨?_,?_,trivial⟩
          · refine u_op 1 rfl rfl (EOp_light rfl (by decide) (L_load rfl (xb2 ty_30)) ?_)
            refine u_any 2 [4] ⟨?_,?_,trivial⟩
            · refine u_op 2 rfl rfl (EOp_light rfl (by decide) (L_load rfl (xb2 ty_3)) ?_)
              refine u_any 4 [] ⟨?_,trivial⟩
              refine u_op 4 rfl rfl (EOp_store rfl rfl rfl (xb1 ty_30) ?_)
              refine u_pure 5 rfl rfl rfl (L_assign rfl) ?_
              refine u_done ?_
              refine G_ret ?_
              rw [hW,totW_app]
              exact⟨_,[12,13,14],rfl,rfl,rfl,rfl⟩
            · refine u_op 4 rfl rfl (EOp_store rfl rfl rfl (xb6 ty_30) ?_)
              refine u_any 2 [] ⟨?_,trivial⟩
              refine u_op 2 rfl rfl (EOp_light rfl (by decide) (L_load rfl (xb0 ty_3)) ?_)
              refine u_pure 5 rfl rfl rfl (L_assign rfl) ?_
              refine u_done ?_
              refine G_ret ?_
              rw [hW,totW_app]
              exact⟨_,[12,13,14],rfl,rfl,rfl,rfl⟩
          · refine u_op 2 rfl rfl (EOp_light rfl (by decide) (L_load rfl (xb2 ty_3)) ?_)
            refine u_any 1 [] ⟨?_,trivial⟩
            refine u_op 1 rfl rfl (EOp_light rfl (by decide) (L_load rfl (xb0 ty_30)) ?_)
            refine u_any 4 [] ⟨?_,trivial⟩
            refine u_op 4 rfl rfl (EOp_store rfl rfl rfl (xb1 ty_30) ?_)
            refine u_pure 5 rfl rfl rfl (L_assign rfl) ?_
            refine u_done ?_
            refine G_ret ?_
            rw [hW,totW_app]
            exact⟨_,[12,13,14],rfl,rfl,rfl,rfl⟩
      · refine u_op 1 rfl rfl (EOp_light rfl (by decide) (L_load rfl (xb2 ty_30)) ?_)
        refine u_any 0 [2] ⟨?_,?_,trivial⟩
        · refine u_op 0 rfl rfl (EOp_light rfl (by decide) (L_load rfl (xb2 ty_49)) ?_)
          refine u_any 2 [3] ⟨?_,?_,trivial⟩
          · refine u_op 2 rfl rfl (EOp_light rfl (by decide) (L_load rfl (xb2 ty_3)) ?_)
            refine u_any 3 [] ⟨?_,trivial⟩
            refine u_op 3 rfl rfl (EOp_store rfl rfl rfl (xb1 ty_49) ?_)
            refine u_any 4 [] ⟨?_,trivial⟩
            refine u_op 4 rfl rfl (EOp_store rfl rfl rfl (xb1 ty_30) ?_)
            refine u_pure 5 rfl rfl rfl (L_assign rfl) ?_
            refine u_done ?_
            refine G_ret ?_
            rw [hW,totW_app]
            exact⟨_,[12,13,14],rfl,rfl,rfl,rfl⟩
          · refine u_op 3 rfl rfl (EOp_store rfl rfl rfl (xb6 ty_49) ?_)
            refine u_any 2 [4] ⟨?_,?_,trivial⟩
            · refine u_op 2 rfl rfl (EOp_light rfl (by decide) (L_load rfl (xb2 ty_3)) ?_)
              refine u_any 4 [] ⟨?_,trivial⟩
              refine u_op 4 rfl rfl (EOp_store rfl rfl rfl (xb1 ty_30) ?_)
              refine u_pure 5 rfl rfl rfl (L_assign rfl) ?_
              refine u_done ?_
              refine G_ret ?_
              rw [hW,totW_app]
              exact⟨_,[12,13,14],rfl,rfl,rfl,rfl⟩
            · refine u_op 4 rfl rfl (EOp_store rfl rfl rfl (xb6 ty_30) ?_)
              refine u_any 2 [] ⟨?_,trivial⟩
              refine u_op 2 rfl rfl (EOp_light rfl (by decide) (L_load rfl (xb0 ty_3)) ?_)
              refine u_pure 5 rfl rfl rfl (L_assign rfl) ?_
              refine u_done ?_
              refine G_ret ?_
              rw [hW,totW_app]
              exact⟨_,[12,13,14],rfl,rfl,rfl,rfl⟩
        · refine u_op 2 rfl rfl (EOp_light rfl (by decide) (L_load rfl (xb2 ty_3)) ?_)
          refine u_any 0 [] ⟨?_,trivial⟩
          refine u_op 0 rfl rfl (EOp_light rfl (by decide) (L_load rfl (xb0 ty_49)) ?_)
          refine u_any 3 [] ⟨?_,trivial⟩
          refine u_op 3 rfl rfl (EOp_store rfl rfl rfl (xb1 ty_49) ?_)
          refine u_any 4 [] ⟨?_,trivial⟩
          refine u_op 4 rfl rfl (EOp_store rfl rfl rfl (xb1 ty_30) ?_)
          refine u_pure 5 rfl rfl rfl (L_assign rfl) ?_
          refine u_done ?_
          refine G_ret ?_
          rw [hW,totW_app]
          exact⟨_,[12,13,14],rfl,rfl,rfl,rfl⟩
      · refine u_op 2 rfl rfl (EOp_light rfl (by decide) (L_load rfl (xb2 ty_3)) ?_)
        refine u_any 0 [1] ⟨?_,?_,trivial⟩
        · refine u_op 0 rfl rfl (EOp_light rfl (by decide) (L_load rfl (xb2 ty_49)) ?_)
          refine u_any 1 [3] ⟨?_,?_,trivial⟩
          · refine u_op 1 rfl rfl (EOp_light rfl (by decide) (L_load rfl (xb2 ty_30)) ?_)
            refine u_any 3 [] ⟨?_,trivial⟩
            refine u_op 3 rfl rfl (EOp_store rfl rfl rfl (xb1 ty_49) ?_)
            refine u_any 4 [] ⟨?_,trivial⟩
            refine u_op 4 rfl rfl (EOp_store rfl rfl rfl (xb1 ty_30) ?_)
            refine u_pure 5 rfl rfl rfl (L_assign rfl) ?_
            refine u_done ?_
            refine G_ret ?_
            rw [hW,totW_app]
            exact⟨_,[12,13,14],rfl,rfl,rfl,rfl⟩
          · refine u_op 3 rfl rfl (EOp_store rfl rfl rfl (xb6 ty_49) ?_)
            refine u_any 1 [] ⟨?_,trivial⟩
            refine u_op 1 rfl rfl (EOp_light rfl (by decide) (L_load rfl (xb0 ty_30)) ?_)
            refine u_any 4 [] ⟨?_,trivial⟩
            refine u_op 4 rfl rfl (EOp_store rfl rfl rfl (xb1 ty_30) ?_)
            refine u_pure 5 rfl rfl rfl (L_assign rfl) ?_
            refine u_done ?_
            refine G_ret ?_
            rw [hW,totW_app]
            exact⟨_,[12,13,14],rfl,rfl,rfl,rfl⟩
        · refine u_op 1 rfl rfl (EOp_light rfl (by decide) (L_load rfl (xb2 ty_30)) ?_)
          refine u_any 0 [] ⟨?_,trivial⟩
          refine u_op 0 rfl rfl (EOp_light rfl (by decide) (L_load rfl (xb0 ty_49)) ?_)
          refine u_any 3 [] ⟨?_,trivial⟩
          refine u_op 3 rfl rfl (EOp_store rfl rfl rfl (xb1 ty_49) ?_)
          refine u_any 4 [] ⟨?_,trivial⟩
          refine u_op 4 rfl rfl (EOp_store rfl rfl rfl (xb1 ty_30) ?_)
          refine u_pure 5 rfl rfl rfl (L_assign rfl) ?_
          refine u_done ?_
          refine G_ret ?_
          rw [hW,totW_app]
          exact⟨_,[12,13,14],rfl,rfl,rfl,rfl⟩
  · refine x_skip rfl rfl rfl ?_
    refine x_skip rfl rfl rfl ?_
    refine x_skip rfl rfl rfl ?_
    refine x_skip rfl rfl rfl ?_
    refine x_pure rfl rfl rfl (L_pick rfl rfl) ?_
    refine EOps_nil ?_
    refine G_cond rfl (fun hc25=>?_) (fun hc25=>?_)
    · exact Bool.noConfusion (hc25:false=true)
    · have hst : stopW cur st v = true := by
        rw [stopW]
        first
          | (have h1 : st.pol = 0 := by simpa using hg20
             simp [h1];done)
          | (have h1 : isPv cur.piv v = true := by simpa using hc25
             simp [h1])
      rw [if_pos hst] at hgs
      have hres:goW 0 v 4000 c s []=(cur,st,l1):=hgo.symm.trans hgs
      have hW:withW 0 c s v []=((crackC cur v).1,st,l1++chgs 0 cur v):=by rw [withW,hres]
      refine G_exit ?_
      refine G_seq ?_
      refine g_tidy_A93_2 [0,1,2,3,4,5,7,8,9,10,11,12,13,14,15,25,37] ?_
      refine G_region' (L:=[0,1,2]) rfl ?_
      refine xmv ?_
      refine xmv ?_
      refine x_frameC [3,8,5,9,10,11] rfl rfl rfl rfl rfl ca_187 rfl (c_impl_cracking_1 cur v (totW l1) hcur hv ⟨by omega,by omega⟩) ?_
      rintro r S ⟨r0,S0,⟨rfl,rfl⟩,rfl,rfl⟩
      refine EOps_nil ?_
      refine G_seq ?_
      refine G_drawU mixed ?_
      refine u_any 0 [1,2] ⟨?_,?_,?_,trivial⟩
      · refine u_op 0 rfl rfl (EOp_light rfl (by decide) (L_load rfl (xb2 ty_49)) ?_)
        refine u_any 1 [2,3] ⟨?_,?_,?_,trivial⟩
        · refine u_op 1 rfl rfl (EOp_light rfl (by decide) (L_load rfl (xb2 ty_30)) ?_)
          refine u_any 2 [3] ⟨?_,?_,trivial⟩
          · refine u_op 2 rfl rfl (EOp_light rfl (by decide) (L_load rfl (xb2 ty_3)) ?_)
            refine u_any 3 [] ⟨?_,trivial⟩
            refine u_op 3 rfl rfl (EOp_store rfl rfl rfl (xb1 ty_49) ?_)
            refine u_any 4 [] ⟨?_,trivial⟩
            refine u_op 4 rfl rfl (EOp_store rfl rfl rfl (xb1 ty_30) ?_)
            refine u_pure 5 rfl rfl rfl (L_assign rfl) ?_
            refine u_done ?_
            refine G_ret ?_
            rw [hW,totW_app]
            exact⟨_,[12,13,14],rfl,rfl,rfl,rfl⟩
          · refine u_op 3 rfl rfl (EOp_store rfl rfl rfl (xb6 ty_49) ?_)
            refine u_any 2 [4] ⟨?_,?_,trivial⟩
            · refine u_op 2 rfl rfl (EOp_light rfl (by decide) (L_load rfl (xb2 ty_3)) ?_)
              refine u_any 4 [] ⟨?_,trivial⟩
              refine u_op 4 rfl rfl (EOp_store rfl rfl rfl (xb1 ty_30) ?_)
              refine u_pure 5 rfl rfl rfl (L_assign rfl) ?_
              refine u_done ?_
              refine G_ret ?_
              rw [hW,totW_app]
              exact⟨_,[12,13,14],rfl,rfl,rfl,rfl⟩
            · refine u_op 4 rfl rfl (EOp_store rfl rfl rfl (xb6 ty_30) ?_)
              refine u_any 2 [] ⟨?_,trivial⟩
              refine u_op 2 rfl rfl (EOp_light rfl (by decide) (L_load rfl (xb0 ty_3)) ?_)
              refine u_pure 5 rfl rfl rfl (L_assign rfl) ?_
              refine u_done ?_
              refine G_ret ?_
              rw [hW,totW_app]
              exact⟨_,[12,13,14],rfl,rfl,rfl,rfl⟩
        · refine u_op 2 rfl rfl (EOp_light rfl (by decide) (L_load rfl (xb2 ty_3)) ?_)
          refine u_any 1 [3] ⟨?_,?_,trivial⟩
          · refine u_op 1 rfl rfl (EOp_light rfl (by decide) (L_load rfl (xb2 ty_30)) ?_)
            refine u_any 3 [] ⟨?_,trivial⟩
            refine u_op 3 rfl rfl (EOp_store rfl rfl rfl (xb1 ty_49) ?_)
            refine u_any 4 [] ⟨?_,trivial⟩
            refine u_op 4 rfl rfl (EOp_store rfl rfl rfl (xb1 ty_30) ?_)
            refine u_pure 5 rfl rfl rfl (L_assign rfl) ?_
            refine u_done ?_
            refine G_ret ?_
            rw [hW,totW_app]
            exact⟨_,[12,13,14],rfl,rfl,rfl,rfl⟩
          · refine u_op 3 rfl rfl (EOp_store rfl rfl rfl (xb6 ty_49) ?_)
            refine u_any 1 [] ⟨?_,trivial⟩
            refine u_op 1 rfl rfl (EOp_light rfl (by decide) (L_load rfl (xb0 ty_30)) ?_)
            refine u_any 4 [] ⟨?_,trivial⟩
            refine u_op 4 rfl rfl (EOp_store rfl rfl rfl (xb1 ty_30) ?_)
            refine u_pure 5 rfl rfl rfl (L_assign rfl) ?_
            refine u_done ?_
            refine G_ret ?_
            rw [hW,totW_app]
            exact⟨_,[12,13,14],rfl,rfl,rfl,rfl⟩
        · refine u_op 3 rfl rfl (EOp_store rfl rfl rfl (xb6 ty_49) ?_)
          refine u_any 1 [2] ⟨?_,?_,trivial⟩
          · refine u_op 1 rfl rfl (EOp_light rfl (by decide) (L_load rfl (xb2 ty_30)) ?_)
            refine u_any 2 [4] ⟨?_,?_,trivial⟩
            · refine u_op 2 rfl rfl (EOp_light rfl (by decide) (L_load rfl (xb2 ty_3)) ?_)
              refine u_any 4 [] ⟨?_,trivial⟩
              refine u_op 4 rfl rfl (EOp_store rfl rfl rfl (xb1 ty_30) ?_)
              refine u_pure 5 rfl rfl rfl (L_assign rfl) ?_
              refine u_done ?_
              refine G_ret ?_
              rw [hW,totW_app]
              exact⟨_,[12,13,14],rfl,rfl,rfl,rfl⟩
            · refine u_op 4 rfl rfl (EOp_store rfl rfl rfl (xb6 ty_30) ?_)
              refine u_any 2 [] ⟨?_,trivial⟩
              refine u_op 2 rfl rfl (EOp_light rfl (by decide) (L_load rfl (xb0 ty_3)) ?_)
              refine u_pure 5 rfl rfl rfl (L_assign rfl) ?_
              refine u_done ?_
              refine G_ret ?_
              rw [hW,totW_app]
              exact⟨_,[12,13,14],rfl,rfl,rfl,rfl⟩
          · refine u_op 2 rfl rfl (EOp_light rfl (by decide) (L_load rfl (xb2 ty_3)) ?_)
            refine u_any 1 [] ⟨?_,trivial⟩
            refine u_op 1 rfl rfl (EOp_light rfl (by decide) (L_load rfl (xb0 ty_30)) ?_)
            refine u_any 4 [] ⟨?_,trivial⟩
            refine u_op 4 rfl rfl (EOp_store rfl rfl rfl (xb1 ty_30) ?_)
            refine u_pure 5 rfl rfl rfl (L_assign rfl) ?_
            refine u_done ?_
            refine G_ret ?_
            rw [hW,totW_app]
            exact⟨_,[12,13,14],rfl,rfl,rfl,rfl⟩
      · refine u_op 1 rfl rfl (EOp_light rfl (by decide) (L_load rfl (xb2 ty_30)) ?_)
        refine u_any 0 [2] ⟨?_,?_,trivial⟩
        · refine u_op 0 rfl rfl (EOp_light rfl (by decide) (L_load rfl (xb2 ty_49)) ?_)
          refine u_any 2 [3] ⟨?_,?_,trivial⟩
          · refine u_op 2 rfl rfl (EOp_light rfl (by decide) (L_load rfl (xb2 ty_3)) ?_)
            refine u_any 3 [] ⟨?_,trivial⟩
            refine u_op 3 rfl rfl (EOp_store rfl rfl rfl (xb1 ty_49) ?_)
            refine u_any 4 [] ⟨?_,trivial⟩
            refine u_op 4 rfl rfl (EOp_store rfl rfl rfl (xb1 ty_30) ?_)
            refine u_pure 5 rfl rfl rfl (L_assign rfl) ?_
            refine u_done ?_
            refine G_ret ?_
            rw [hW,totW_app]
            exact⟨_,[12,13,14],rfl,rfl,rfl,rfl⟩
          · refine u_op 3 rfl rfl (EOp_store rfl rfl rfl (xb6 ty_49) ?_)
            refine u_any 2 [4] ⟨?_,?_,trivial⟩
            · refine u_op 2 rfl rfl (EOp_light rfl (by decide) (L_load rfl (xb2 ty_3)) ?_)
              refine u_any 4 [] ⟨?_,trivial⟩
              refine u_op 4 rfl rfl (EOp_store rfl rfl rfl (xb1 ty_30) ?_)
              refine u_pure 5 rfl rfl rfl (L_assign rfl) ?_
              refine u_done ?_
              refine G_ret ?_
              rw [hW,totW_app]
              exact⟨_,[12,13,14],rfl,rfl,rfl,rfl⟩
            · refine u_op 4 rfl rfl (EOp_store rfl rfl rfl (xb6 ty_30) ?_)
              refine u_any 2 [] ⟨?_,trivial⟩
              refine u_op 2 rfl rfl (EOp_light rfl (by decide) (L_load rfl (xb0 ty_3)) ?_)
              refine u_pure 5 rfl rfl rfl (L_assign rfl) ?_
              refine u_done ?_
              refine G_ret ?_
              rw [hW,totW_app]
              exact⟨_,[12,13,14],rfl,rfl,rfl,rfl⟩
        · refine u_op 2 rfl rfl (EOp_light rfl (by decide) (L_load rfl (xb2 ty_3)) ?_)
          refine u_any 0 [] ⟨?_,trivial⟩
          refine u_op 0 rfl rfl (EOp_light rfl (by decide) (L_load rfl (xb0 ty_49)) ?_)
          refine u_any 3 [] ⟨?_,trivial⟩
          refine u_op 3 rfl rfl (EOp_store rfl rfl rfl (xb1 ty_49) ?_)
          refine u_any 4 [] ⟨?_,trivial⟩
          refine u_op 4 rfl rfl (EOp_store rfl rfl rfl (xb1 ty_30) ?_)
          refine u_pure 5 rfl rfl rfl (L_assign rfl) ?_
          refine u_done ?_
          refine G_ret ?_
          rw [hW,totW_app]
          exact⟨_,[12,13,14],rfl,rfl,rfl,rfl⟩
      · refine u_op 2 rfl rfl (EOp_light rfl (by decide) (L_load rfl (xb2 ty_3)) ?_)
        refine u_any 0 [1] ⟨?_,?_,trivial⟩
        · refine u_op 0 rfl rfl (EOp_light rfl (by decide) (L_load rfl (xb2 ty_49)) ?_)
          refine u_any 1 [3] ⟨?_,?_,trivial⟩
          · refine u_op 1 rfl rfl (EOp_light rfl (by decide) (L_load rfl (xb2 ty_30)) ?_)
            refine u_any 3 [] ⟨?_,trivial⟩
            refine u_op 3 rfl rfl (EOp_store rfl rfl rfl (xb1 ty_49) ?_)
            refine u_any 4 [] ⟨?_,trivial⟩
            refine u_op 4 rfl rfl (EOp_store rfl rfl rfl (xb1 ty_30) ?_)
            refine u_pure 5 rfl rfl rfl (L_assign rfl) ?_
            refine u_done ?_
            refine G_ret ?_
            rw [hW,totW_app]
            exact⟨_,[12,13,14],rfl,rfl,rfl,rfl⟩
          · refine u_op 3 rfl rfl (EOp_store rfl rfl rfl (xb6 ty_49) ?_)
            refine u_any 1 [] ⟨?_,trivial⟩
            refine u_op 1 rfl rfl (EOp_light rfl (by decide) (L_load rfl (xb0 ty_30)) ?_)
            refine u_any 4 [] ⟨?_,trivial⟩
            refine u_op 4 rfl rfl (EOp_store rfl rfl rfl (xb1 ty_30) ?_)
            refine u_pure 5 rfl rfl rfl (L_assign rfl) ?_
            refine u_done ?_
            refine G_ret ?_
            rw [hW,totW_app]
            exact⟨_,[12,13,14],rfl,rfl,rfl,rfl⟩
        · refine u_op 1 rfl rfl (EOp_light rfl (by decide) (L_load rfl (xb2 ty_30)) ?_)
          refine u_any 0 [] ⟨?_,trivial⟩
          refine u_op 0 rfl rfl (EOp_light rfl (by decide) (L_load rfl (xb0 ty_49)) ?_)
          refine u_any 3 [] ⟨?_,trivial⟩
          refine u_op 3 rfl rfl (EOp_store rfl rfl rfl (xb1 ty_49) ?_)
          refine u_any 4 [] ⟨?_,trivial⟩
          refine u_op 4 rfl rfl (EOp_store rfl rfl rfl (xb1 ty_30) ?_)
          refine u_pure 5 rfl rfl rfl (L_assign rfl) ?_
          refine u_done ?_
          refine G_ret ?_
          rw [hW,totW_app]
          exact⟨_,[12,13,14],rfl,rfl,rfl,rfl⟩

set_option maxRecDepth 20000 in
set_option maxHeartbeats 8000000 in
theorem c_impl_CrackWith (c : Crk) (s : Sett) (v : Int) (hb : c.vals.length ≤ 1048576 ∧ c.rows.length ≤ 1048576 ∧ c.piv.length ≤ 1048576) : EFn Tryz.prog 43 [.agg (crkC c), .agg (setC s), .c (.sc (.int .i64 v))] [] (fun r S => r = .tup [(true, crkO 0 (cwC c s v)), (true, setC (cwS c s v)), (false, [.sc (.int .i64 (cwN c s v))])] ∧ S = crkR 3 151 (cwC c s v)) := by
 refine E_fn Tryz.func43 rfl (Nat.le_of_ble_eq_true rfl) ?_
 refine E_seq ?_
 refine E_region' (L:=[0,1,2,3,4]) rfl ?_
 refine x_box rfl rfl rfl rfl rfl ?_
 refine x_box rfl rfl rfl rfl rfl ?_
 refine x_alloc rfl rfl rfl rfl za_49 ?_
 refine x_alloc rfl rfl rfl rfl za_30 ?_
 refine xas ?_
 refine EOps_nil ?_
 refine E_seq ?_
 refine E_seq ?_
 refine e_tidy_A93_0 [0,1,2,3,4,6,7,8] ?_
 refine E_region' (L:=[0,1,2,3,4,5,6,7,8,9,10,11,12]) rfl ?_
 refine x_light rfl rfl rfl (L_load rfl (xb0 ty_49)) ?_
 refine x_call rfl rfl rfl rfl rfl ca_46 (c_impl_IsCracker c) ?_
 rintro r S ⟨rfl,rfl⟩
 refine x_pure rfl rfl rfl (L_not rfl rfl) ?_
 refine xmv ?_
 refine EOps_split 12 (b:=_) rfl (fun hg12=>?_) (fun hg12=>?_)
 ·refine x_skip rfl rfl rfl ?_
  refine x_skip rfl rfl rfl ?_
  refine x_skip rfl rfl rfl ?_
  refine x_pure rfl rfl rfl (L_pick rfl rfl) ?_
  refine xmv ?_
  refine x_skip rfl rfl rfl ?_
  refine x_skip rfl rfl rfl ?_
  refine x_skip rfl rfl rfl ?_
  refine x_pure rfl rfl rfl (L_pick rfl rfl) ?_
  refine EOps_nil ?_
  refine E_cond rfl (fun hc21=>?_) (fun hc21=>?_)
  ·have hk : cwK c s v = false := by
    simp only [cwK,bnd]
    simp_all
   have hcc:cwC c s v=c∧cwS c s v=s∧cwN c s v=0:=by simp [cwC,cwS,cwN,hk]
   refine E_seq ?_
   refine e_tidy_A93_0 [0,1,2,3,4,6,7,8,21] ?_
   refine E_drawU mixed ?_
   refine u_any 0 [2] ⟨?_,?_,trivial⟩
   ·refine u_op 0 rfl rfl (EOp_light rfl (by decide) (L_load rfl (xb2 ty_49)) ?_)
    refine u_any 1 [2] ⟨?_,?_,trivial⟩
    ·refine u_call 1 rfl rfl rfl rfl rfl ca_104 (c_impl_copyCracker c hb) ?_
     rintro r S ⟨rfl,rfl⟩
     refine u_any 2 [3] ⟨?_,?_,trivial⟩
     ·refine u_op 2 rfl rfl (EOp_light rfl (by decide) (L_load rfl (xb2 ty_30)) ?_)
      refine u_any 3 [] ⟨?_,trivial⟩
      refine u_op 3 rfl rfl (EOp_store rfl rfl rfl (xb1 ty_49) ?_)
      refine u_any 4 [] ⟨?_,trivial⟩
      refine u_op 4 rfl rfl (EOp_store rfl rfl rfl (xb1 ty_30) ?_)
      refine u_pure 5 rfl rfl rfl (L_assign rfl) ?_
      refine u_done ?_
      refine E_ret ?_
      rw [hcc.1,hcc.2.1,hcc.2.2]
      first
       | exact⟨_,[4,5,6],rfl,rfl,rfl,rfl⟩
       | exact⟨_,[7,8,9],rfl,rfl,rfl,rfl⟩
     ·refine u_op 3 rfl rfl (EOp_store rfl rfl rfl (xb6 ty_49) ?_)
      refine u_any 2 [] ⟨?_,trivial⟩
      refine u_op 2 rfl rfl (EOp_light rfl (by decide) (L_load rfl (xb0 ty_30)) ?_)
      refine u_any 4 [] ⟨?_,trivial⟩
      refine u_op 4 rfl rfl (EOp_store rfl rfl rfl (xb1 ty_30) ?_)
      refine u_pure 5 rfl rfl rfl (L_assign rfl) ?_
      refine u_done ?_
      refine E_ret ?_
      rw [hcc.1,hcc.2.1,hcc.2.2]
      first
       | exact⟨_,[4,5,6],rfl,rfl,rfl,rfl⟩
       | exact⟨_,[7,8,9],rfl,rfl,rfl,rfl⟩
    ·refine u_op 2 rfl rfl (EOp_light rfl (by decide) (L_load rfl (xb2 ty_30)) ?_)
     refine u_any 1 [] ⟨?_,trivial⟩
     refine u_call 1 rfl rfl rfl rfl rfl ca_104 (c_impl_copyCracker c hb) ?_
     rintro r S ⟨rfl,rfl⟩
     refine u_any 3 [] ⟨?_,trivial⟩
     refine u_op 3 rfl rfl (EOp_store rfl rfl rfl (xb1 ty_49) ?_)
     refine u_any 4 [] ⟨?_,trivial⟩
     refine u_op 4 rfl rfl (EOp_store rfl rfl rfl (xb1 ty_30) ?_)
     refine u_pure 5 rfl rfl rfl (L_assign rfl) ?_
     refine u_done ?_
     refine E_ret ?_
     rw [hcc.1,hcc.2.1,hcc.2.2]
     first
      | exact⟨_,[4,5,6],rfl,rfl,rfl,rfl⟩
      | exact⟨_,[7,8,9],rfl,rfl,rfl,rfl⟩
   ·refine u_op 2 rfl rfl (EOp_light rfl (by decide) (L_load rfl (xb2 ty_30)) ?_)
    refine u_any 0 [] ⟨?_,trivial⟩
    refine u_op 0 rfl rfl (EOp_light rfl (by decide) (L_load rfl (xb0 ty_49)) ?_)
    refine u_any 1 [] ⟨?_,trivial⟩
    refine u_call 1 rfl rfl rfl rfl rfl ca_104 (c_impl_copyCracker c hb) ?_
    rintro r S ⟨rfl,rfl⟩
    refine u_any 3 [] ⟨?_,trivial⟩
    refine u_op 3 rfl rfl (EOp_store rfl rfl rfl (xb1 ty_49) ?_)
    refine u_any 4 [] ⟨?_,trivial⟩
    refine u_op 4 rfl rfl (EOp_store rfl rfl rfl (xb1 ty_30) ?_)
    refine u_pure 5 rfl rfl rfl (L_assign rfl) ?_
    refine u_done ?_
    refine E_ret ?_
    rw [hcc.1,hcc.2.1,hcc.2.2]
    first
     | exact⟨_,[4,5,6],rfl,rfl,rfl,rfl⟩
     | exact⟨_,[7,8,9],rfl,rfl,rfl,rfl⟩
  ·exact Bool.noConfusion (hc21:true=false)
 ·refine x_light rfl rfl rfl (L_load rfl (xb2 ty_30)) ?_
  refine x_call rfl rfl rfl rfl rfl ca_47 (c_impl_IsSettings s) ?_
  rintro r S ⟨rfl,rfl⟩
  refine x_pure rfl rfl rfl (L_not rfl rfl) ?_
  refine x_pure rfl rfl rfl (L_pick rfl rfl) ?_
  refine xmv ?_
  refine EOps_split 17 (b:=_) rfl (fun hg17=>?_) (fun hg17=>?_)
  ·refine x_skip rfl rfl rfl ?_
   refine x_skip rfl rfl rfl ?_
   refine x_skip rfl rfl rfl ?_
   refine x_pure rfl rfl rfl (L_pick rfl rfl) ?_
   refine EOps_nil ?_
   refine E_cond rfl (fun hc21=>?_) (fun hc21=>?_)
   ·have hk : cwK c s v = false := by
     simp only [cwK,bnd]
     simp_all
    have hcc:cwC c s v=c∧cwS c s v=s∧cwN c s v=0:=by simp [cwC,cwS,cwN,hk]
    refine E_seq ?_
    refine e_tidy_A93_0 [0,1,2,3,4,6,7,8,21] ?_
    refine E_drawU mixed ?_
    refine u_any 0 [2] ⟨?_,?_,trivial⟩
    ·refine u_op 0 rfl rfl (EOp_light rfl (by decide) (L_load rfl (xb2 ty_49)) ?_)
     refine u_any 1 [2] ⟨?_,?_,trivial⟩
     ·refine u_call 1 rfl rfl rfl rfl rfl ca_104 (c_impl_copyCracker c hb) ?_
      rintro r S ⟨rfl,rfl⟩
      refine u_any 2 [3] ⟨?_,?_,trivial⟩
      ·refine u_op 2 rfl rfl (EOp_light rfl (by decide) (L_load rfl (xb2 ty_30)) ?_)
       refine u_any 3 [] ⟨?_,trivial⟩
       refine u_op 3 rfl rfl (EOp_store rfl rfl rfl (xb1 ty_49) ?_)
       refine u_any 4 [] ⟨?_,trivial⟩
       refine u_op 4 rfl rfl (EOp_store rfl rfl rfl (xb1 ty_30) ?_)
       refine u_pure 5 rfl rfl rfl (L_assign rfl) ?_
       refine u_done ?_
       refine E_ret ?_
       rw [hcc.1,hcc.2.1,hcc.2.2]
       first
        | exact⟨_,[4,5,6],rfl,rfl,rfl,rfl⟩
        | exact⟨_,[7,8,9],rfl,rfl,rfl,rfl⟩
      ·refine u_op 3 rfl rfl (EOp_store rfl rfl rfl (xb6 ty_49) ?_)
       refine u_any 2 [] ⟨?_,trivial⟩
       refine u_op 2 rfl rfl (EOp_light rfl (by decide) (L_load rfl (xb0 ty_30)) ?_)
       refine u_any 4 [] ⟨?_,trivial⟩
       refine u_op 4 rfl rfl (EOp_store rfl rfl rfl (xb1 ty_30) ?_)
       refine u_pure 5 rfl rfl rfl (L_assign rfl) ?_
       refine u_done ?_
       refine E_ret ?_
       rw [hcc.1,hcc.2.1,hcc.2.2]
       first
        | exact⟨_,[4,5,6],rfl,rfl,rfl,rfl⟩
        | exact⟨_,[7,8,9],rfl,rfl,rfl,rfl⟩
     ·refine u_op 2 rfl rfl (EOp_light rfl (by decide) (L_load rfl (xb2 ty_30)) ?_)
      refine u_any 1 [] ⟨?_,trivial⟩
      refine u_call 1 rfl rfl rfl rfl rfl ca_104 (c_impl_copyCracker c hb) ?_
      rintro r S ⟨rfl,rfl⟩
      refine u_any 3 [] ⟨?_,trivial⟩
      refine u_op 3 rfl rfl (EOp_store rfl rfl rfl (xb1 ty_49) ?_)
      refine u_any 4 [] ⟨?_,trivial⟩
      refine u_op 4 rfl rfl (EOp_store rfl rfl rfl (xb1 ty_30) ?_)
      refine u_pure 5 rfl rfl rfl (L_assign rfl) ?_
      refine u_done ?_
      refine E_ret ?_
      rw [hcc.1,hcc.2.1,hcc.2.2]
      first
       | exact⟨_,[4,5,6],rfl,rfl,rfl,rfl⟩
       | exact⟨_,[7,8,9],rfl,rfl,rfl,rfl⟩
    ·refine u_op 2 rfl rfl (EOp_light rfl (by decide) (L_load rfl (xb2 ty_30)) ?_)
     refine u_any 0 [] ⟨?_,trivial⟩
     refine u_op 0 rfl rfl (EOp_light rfl (by decide) (L_load rfl (xb0 ty_49)) ?_)
     refine u_any 1 [] ⟨?_,trivial⟩
     refine u_call 1 rfl rfl rfl rfl rfl ca_104 (c_impl_copyCracker c hb) ?_
     rintro r S ⟨rfl,rfl⟩
     refine u_any 3 [] ⟨?_,trivial⟩
     refine u_op 3 rfl rfl (EOp_store rfl rfl rfl (xb1 ty_49) ?_)
     refine u_any 4 [] ⟨?_,trivial⟩
     refine u_op 4 rfl rfl (EOp_store rfl rfl rfl (xb1 ty_30) ?_)
     refine u_pure 5 rfl rfl rfl (L_assign rfl) ?_
     refine u_done ?_
     refine E_ret ?_
     rw [hcc.1,hcc.2.1,hcc.2.2]
     first
      | exact⟨_,[4,5,6],rfl,rfl,rfl,rfl⟩
      | exact⟨_,[7,8,9],rfl,rfl,rfl,rfl⟩
   ·exact Bool.noConfusion (hc21:true=false)
  ·refine xmv ?_
   refine x_call rfl rfl rfl rfl rfl ca_120 (c_impl_bound v) ?_
   rintro r S ⟨rfl,rfl⟩
   refine x_pure rfl rfl rfl (L_not rfl rfl) ?_
   refine x_pure rfl rfl rfl (L_pick rfl rfl) ?_
   refine EOps_nil ?_
   refine E_cond rfl (fun hc21=>?_) (fun hc21=>?_)
   ·have hk : cwK c s v = false := by
     simp only [cwK,bnd]
     simp_all
    have hcc:cwC c s v=c∧cwS c s v=s∧cwN c s v=0:=by simp [cwC,cwS,cwN,hk]
    refine E_seq ?_
    refine e_tidy_A93_0 [0,1,2,3,4,6,7,8,21] ?_
    refine E_drawU mixed ?_
    refine u_any 0 [2] ⟨?_,?_,trivial⟩
    ·refine u_op 0 rfl rfl (EOp_light rfl (by decide) (L_load rfl (xb2 ty_49)) ?_)
     refine u_any 1 [2] ⟨?_,?_,trivial⟩
     ·refine u_call 1 rfl rfl rfl rfl rfl ca_104 (c_impl_copyCracker c hb) ?_
      rintro r S ⟨rfl,rfl⟩
      refine u_any 2 [3] ⟨?_,?_,trivial⟩
      ·refine u_op 2 rfl rfl (EOp_light rfl (by decide) (L_load rfl (xb2 ty_30)) ?_)
       refine u_any 3 [] ⟨?_,trivial⟩
       refine u_op 3 rfl rfl (EOp_store rfl rfl rfl (xb1 ty_49) ?_)
       refine u_any 4 [] ⟨?_,trivial⟩
       refine u_op 4 rfl rfl (EOp_store rfl rfl rfl (xb1 ty_30) ?_)
       refine u_pure 5 rfl rfl rfl (L_assign rfl) ?_
       refine u_done ?_
       refine E_ret ?_
       rw [hcc.1,hcc.2.1,hcc.2.2]
       first
        | exact⟨_,[4,5,6],rfl,rfl,rfl,rfl⟩
        | exact⟨_,[7,8,9],rfl,rfl,rfl,rfl⟩
      ·refine u_op 3 rfl rfl (EOp_store rfl rfl rfl (xb6 ty_49) ?_)
       refine u_any 2 [] ⟨?_,trivial⟩
       refine u_op 2 rfl rfl (EOp_light rfl (by decide) (L_load rfl (xb0 ty_30)) ?_)
       refine u_any 4 [] ⟨?_,trivial⟩
       refine u_op 4 rfl rfl (EOp_store rfl rfl rfl (xb1 ty_30) ?_)
       refine u_pure 5 rfl rfl rfl (L_assign rfl) ?_
       refine u_done ?_
       refine E_ret ?_
       rw [hcc.1,hcc.2.1,hcc.2.2]
       first
        | exact⟨_,[4,5,6],rfl,rfl,rfl,rfl⟩
        | exact⟨_,[7,8,9],rfl,rfl,rfl,rfl⟩
     ·refine u_op 2 rfl rfl (EOp_light rfl (by decide) (L_load rfl (xb2 ty_30)) ?_)
      refine u_any 1 [] ⟨?_,trivial⟩
      refine u_call 1 rfl rfl rfl rfl rfl ca_104 (c_impl_copyCracker c hb) ?_
      rintro r S ⟨rfl,rfl⟩
      refine u_any 3 [] ⟨?_,trivial⟩
      refine u_op 3 rfl rfl (EOp_store rfl rfl rfl (xb1 ty_49) ?_)
      refine u_any 4 [] ⟨?_,trivial⟩
      refine u_op 4 rfl rfl (EOp_store rfl rfl rfl (xb1 ty_30) ?_)
      refine u_pure 5 rfl rfl rfl (L_assign rfl) ?_
      refine u_done ?_
      refine E_ret ?_
      rw [hcc.1,hcc.2.1,hcc.2.2]
      first
       | exact⟨_,[4,5,6],rfl,rfl,rfl,rfl⟩
       | exact⟨_,[7,8,9],rfl,rfl,rfl,rfl⟩
    ·refine u_op 2 rfl rfl (EOp_light rfl (by decide) (L_load rfl (xb2 ty_30)) ?_)
     refine u_any 0 [] ⟨?_,trivial⟩
     refine u_op 0 rfl rfl (EOp_light rfl (by decide) (L_load rfl (xb0 ty_49)) ?_)
     refine u_any 1 [] ⟨?_,trivial⟩
     refine u_call 1 rfl rfl rfl rfl rfl ca_104 (c_impl_copyCracker c hb) ?_
     rintro r S ⟨rfl,rfl⟩
     refine u_any 3 [] ⟨?_,trivial⟩
     refine u_op 3 rfl rfl (EOp_store rfl rfl rfl (xb1 ty_49) ?_)
     refine u_any 4 [] ⟨?_,trivial⟩
     refine u_op 4 rfl rfl (EOp_store rfl rfl rfl (xb1 ty_30) ?_)
     refine u_pure 5 rfl rfl rfl (L_assign rfl) ?_
     refine u_done ?_
     refine E_ret ?_
     rw [hcc.1,hcc.2.1,hcc.2.2]
     first
      | exact⟨_,[4,5,6],rfl,rfl,rfl,rfl⟩
      | exact⟨_,[7,8,9],rfl,rfl,rfl,rfl⟩
   ·have hk : cwK c s v = true := by
     simp only [cwK,bnd]
     simp_all
    have hcc:cwC c s v=(withW 0 c s v []).1∧cwS c s v=(withW 0 c s v []).2.1∧cwN c s v=totW (withW 0 c s v []).2.2:=by simp [cwC,cwS,cwN,hk]
    obtain⟨hc,hs,hv⟩:=cwK_parts hk
    refine E_skip ?_
    refine E_seq ?_
    refine e_tidy_A93_0 [0,1,2,3,4,6,7,8,21] ?_
    refine E_drawU mixed ?_
    refine u_pure 3 rfl rfl rfl (L_move rfl) ?_
    refine u_any 0 [2] ⟨?_,?_,trivial⟩
    ·refine u_op 0 rfl rfl (EOp_light rfl (by decide) (L_load rfl (xb2 ty_49)) ?_)
     refine u_any 1 [2] ⟨?_,?_,trivial⟩
     ·refine u_call 1 rfl rfl rfl rfl rfl ca_104 (c_impl_copyCracker c hb) ?_
      rintro r S ⟨rfl,rfl⟩
      refine u_any 2 [] ⟨?_,trivial⟩
      refine u_op 2 rfl rfl (EOp_light rfl (by decide) (L_load rfl (xb0 ty_30)) ?_)
      refine u_any 4 [] ⟨?_,trivial⟩
      refine u_frame 4 [4,5,6] rfl rfl rfl rfl rfl ca_121 rfl (c_impl_cracking c s v hc hs hv) ?_
      rintro r S ⟨r0,S0,⟨rfl,rfl⟩,rfl,rfl⟩
      refine u_pure 5 rfl rfl rfl (L_extract rfl rfl) ?_
      refine u_pure 6 rfl rfl rfl (L_extract rfl rfl) ?_
      refine u_pure 7 rfl rfl rfl (L_extract rfl rfl) ?_
      refine u_any 8 [] ⟨?_,trivial⟩
      refine u_op 8 rfl rfl (EOp_store rfl rfl rfl (xb1 ty_49) ?_)
      refine u_any 9 [] ⟨?_,trivial⟩
      refine u_op 9 rfl rfl (EOp_store rfl rfl rfl (xb1 ty_30) ?_)
      refine u_pure 10 rfl rfl rfl (L_assign rfl) ?_
      refine u_done ?_
      refine E_ret ?_
      rw [hcc.1,hcc.2.1,hcc.2.2]
      first
       | exact⟨_,[4,5,6],rfl,rfl,rfl,rfl⟩
       | exact⟨_,[7,8,9],rfl,rfl,rfl,rfl⟩
     ·refine u_op 2 rfl rfl (EOp_light rfl (by decide) (L_load rfl (xb2 ty_30)) ?_)
      refine u_any 1 [] ⟨?_,trivial⟩
      refine u_call 1 rfl rfl rfl rfl rfl ca_104 (c_impl_copyCracker c hb) ?_
      rintro r S ⟨rfl,rfl⟩
      refine u_any 4 [] ⟨?_,trivial⟩
      refine u_frame 4 [4,5,6] rfl rfl rfl rfl rfl ca_121 rfl (c_impl_cracking c s v hc hs hv) ?_
      rintro r S ⟨r0,S0,⟨rfl,rfl⟩,rfl,rfl⟩
      refine u_pure 5 rfl rfl rfl (L_extract rfl rfl) ?_
      refine u_pure 6 rfl rfl rfl (L_extract rfl rfl) ?_
      refine u_pure 7 rfl rfl rfl (L_extract rfl rfl) ?_
      refine u_any 8 [] ⟨?_,trivial⟩
      refine u_op 8 rfl rfl (EOp_store rfl rfl rfl (xb1 ty_49) ?_)
      refine u_any 9 [] ⟨?_,trivial⟩
      refine u_op 9 rfl rfl (EOp_store rfl rfl rfl (xb1 ty_30) ?_)
      refine u_pure 10 rfl rfl rfl (L_assign rfl) ?_
      refine u_done ?_
      refine E_ret ?_
      rw [hcc.1,hcc.2.1,hcc.2.2]
      first
       | exact⟨_,[4,5,6],rfl,rfl,rfl,rfl⟩
       | exact⟨_,[7,8,9],rfl,rfl,rfl,rfl⟩
    ·refine u_op 2 rfl rfl (EOp_light rfl (by decide) (L_load rfl (xb2 ty_30)) ?_)
     refine u_any 0 [] ⟨?_,trivial⟩
     refine u_op 0 rfl rfl (EOp_light rfl (by decide) (L_load rfl (xb0 ty_49)) ?_)
     refine u_any 1 [] ⟨?_,trivial⟩
     refine u_call 1 rfl rfl rfl rfl rfl ca_104 (c_impl_copyCracker c hb) ?_
     rintro r S ⟨rfl,rfl⟩
     refine u_any 4 [] ⟨?_,trivial⟩
     refine u_frame 4 [4,5,6] rfl rfl rfl rfl rfl ca_121 rfl (c_impl_cracking c s v hc hs hv) ?_
     rintro r S ⟨r0,S0,⟨rfl,rfl⟩,rfl,rfl⟩
     refine u_pure 5 rfl rfl rfl (L_extract rfl rfl) ?_
     refine u_pure 6 rfl rfl rfl (L_extract rfl rfl) ?_
     refine u_pure 7 rfl rfl rfl (L_extract rfl rfl) ?_
     refine u_any 8 [] ⟨?_,trivial⟩
     refine u_op 8 rfl rfl (EOp_store rfl rfl rfl (xb1 ty_49) ?_)
     refine u_any 9 [] ⟨?_,trivial⟩
     refine u_op 9 rfl rfl (EOp_store rfl rfl rfl (xb1 ty_30) ?_)
     refine u_pure 10 rfl rfl rfl (L_assign rfl) ?_
     refine u_done ?_
     refine E_ret ?_
     rw [hcc.1,hcc.2.1,hcc.2.2]
     first
      | exact⟨_,[4,5,6],rfl,rfl,rfl,rfl⟩
      | exact⟨_,[7,8,9],rfl,rfl,rfl,rfl⟩

end Go.Proofs.YtlodlnbhjghjoaaGreat.E
