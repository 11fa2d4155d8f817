/- Walks through functions, by program out of the session's annotations. -/
import Derived.Test.YtjbbjicochipeaaGreatA42
import Derived.Test.YtjbbjicochipeaaGreatA06
import Derived.Test.YtjbbjicochipeaaGreatA08
import Derived.Test.YtjbbjicochipeaaGreatF3
namespace Go.Proofs.YtjbbjicochipeaaGreat.E
open Go Go.RowKit Go.Proofs
set_option linter.unusedVariables false
set_option linter.unusedSimpArgs false

theorem upto_get : ∀ {n q : Nat}, q < n → (upto n)[q]? = some (q : Int)
 | n + 1, q, h => by
  unfold upto
  rcases Nat.lt_or_ge q n with h'|h'
  ·rw [List.getElem?_append_left (by rw [upto_len];exact h')];exact upto_get h'
  have : q = n := by omega
  subst this
  rw [List.getElem?_append_right (by rw [upto_len];omega),upto_len];simp
theorem newCrk_ok {xs : List Int} (h : areVals xs = true) : isCrk (newCrk xs) = true := by
 have hv:=areVals_parts h
 have hat : ∀ q, q < xs.length → (upto xs.length).getD q 0 = (q : Int) := fun q hq => by
  rw [List.getD_eq_getElem?_getD,upto_get hq];rfl
 rw [newCrk,if_pos h,crk_iff]
 refine⟨hv.1,fun q hq=>?_,?_,fun q hq=>?_,fun q r hq hr e=>?_,fun p hp=>?_,fun i j p q _ hp _=>?_⟩
 ·dsimp only at *
  rw [getD_at hq];exact hv.2 _ (List.getElem_mem hq)
 ·exact upto_len _
 ·dsimp only at *
  rw [hat q hq]
  have:=hv.1
  omega
 ·dsimp only at *
  rw [hat q hq,hat r hr] at e;omega
 ·simp at hp
 simp at hp
abbrev Chg:=Int × Int × Int × Int × Int
def stepK (c:Crk) (g:Chg):Bool:=bnd g.2.1 && !isPv c.piv g.2.1 && decide (pcFrom c.piv g.2.1=g.2.2.1) && decide (pcTo c.piv c.vals.length g.2.1=g.2.2.2.1) && decide (((crackC c g.2.1).2.length:Int)=g.2.2.2.2)
theorem stepK_parts {c : Crk} {g : Chg} (h : stepK c g = true) : bnd g.2.1 = true ∧ isPv c.piv g.2.1 = false ∧ pcFrom c.piv g.2.1 = g.2.2.1 ∧ pcTo c.piv c.vals.length g.2.1 = g.2.2.2.1 ∧ ((crackC c g.2.1).2.length : Int) = g.2.2.2.2 := by
 simp only [stepK,Bool.and_eq_true,Bool.not_eq_true',decide_eq_true_eq] at h
 exact⟨h.1.1.1.1,h.1.1.1.2,h.1.1.2,h.1.2,h.2⟩
theorem stepK_mk {c : Crk} {g : Chg} (h1 : bnd g.2.1 = true) (h2 : isPv c.piv g.2.1 = false) (h3 : pcFrom c.piv g.2.1 = g.2.2.1) (h4 : pcTo c.piv c.vals.length g.2.1 = g.2.2.2.1) (h5 : ((crackC c g.2.1).2.length : Int) = g.2.2.2.2) : stepK c g = true := by
 simp [stepK,h1,h2,h3,h4,h5]
def repl : Crk → List Chg → Option Crk
 | c,[]=>some c
 | c,g::gs=>if stepK c g=true then repl (crackC c g.2.1).1 gs else none
theorem repl_at {c : Crk} {gs : List Chg} {k : Nat} {g : Chg} (h : gs[k]? = some g) : repl c (gs.drop k) = if stepK c g = true then repl (crackC c g.2.1).1 (gs.drop (k + 1)) else none := by
 have hk : k < gs.length := by
  rcases Nat.lt_or_ge k gs.length with h'|h'
  ·exact h'
  rw [List.getElem?_eq_none h'] at h;cases h
 rw [List.getElem?_eq_getElem hk] at h
 cases h
 rw [List.drop_eq_getElem_cons hk,repl]
/-- A ledger replayed. -/
def repO (xs:List Int) (gs:List Chg):Option Crk:=if areVals xs=true then repl (newCrk xs) gs else none
def repC (xs:List Int) (gs:List Chg):Crk:=(repO xs gs).getD ⟨[],[],[]⟩
def repK (xs:List Int) (gs:List Chg):Bool:=(repO xs gs).isSome
theorem rep_none {xs:List Int} {gs:List Chg} (h:repO xs gs=none):repC xs gs=⟨[],[],[]⟩∧repK xs gs=false:=by simp [repC,repK,h]
theorem rep_some {xs:List Int} {gs:List Chg} {c:Crk} (h:repO xs gs=some c):repC xs gs=c∧repK xs gs=true:=by simp [repC,repK,h]
set_option maxRecDepth 20000 in
set_option maxHeartbeats 4000000 in
theorem c_impl_ReplayLedger (xs : List Int) (gs : List Chg) (hb : xs.length ≤ 1048576 ∧ gs.length ≤ 1048576) : EFn Tryz.prog 21 [.c (.ro (ints xs)), .c (.ro (quints gs))] [] (fun r S => r = .tup [(true, crkO 0 (repC xs gs)), (false, [.sc (.bool (repK xs gs))])] ∧ S = crkR 3 87 (repC xs gs)) := by
 refine E_fn Tryz.func21 rfl (Nat.le_of_ble_eq_true rfl) ?_
 refine E_G (n:=0) rfl ?_
 refine G_seq ?_
 refine G_region' (L:=[0,1]) rfl ?_
 refine x_alloc rfl rfl rfl rfl za_42 ?_
 refine xas ?_
 refine EOps_nil ?_
 refine G_seq ?_
 refine G_seq ?_
 refine g_tidy_A37_0 [0,1,4,5] ?_
 refine G_region' (L:=[0,1,2]) rfl ?_
 refine xmv ?_
 refine x_call rfl rfl rfl rfl rfl ca_45 (c_impl_AreValues xs) ?_
 rintro r S ⟨rfl,rfl⟩
 refine p_ rfl (L_not rfl rfl) ?_
 refine EOps_nil ?_
 refine G_cond rfl (fun hc15=>?_) (fun hc15=>?_)
 ·have hr : repO xs gs = none := by
   rw [repO,if_neg (by simpa using hc15)]
  obtain⟨hr1,hr2⟩:=rep_none hr
  refine G_seq ?_
  refine G_region' (L:=[0,1,2]) rfl ?_
  refine p_ rfl (L_build rfl bd_42 rfl rfl) ?_
  refine EOps_go rfl rfl (EOp_store rfl rfl rfl (xb1 ty_42) ?_)
  refine xas ?_
  refine EOps_nil ?_
  refine G_ghostB 0 0 3 1 rfl rfl (by decide) ?_
  refine G_ghostB 0 1 3 1 rfl rfl (by decide) ?_
  refine G_ghostB 0 2 87 2 rfl rfl (by decide) ?_
  refine G_ret ?_
  refine⟨_,[1,2,3],rfl,rfl,?_,?_⟩
  ·rw [hr1,hr2];rfl
  rw [hr1];rfl
 have hv : areVals xs = true := by simpa using hc15
 have hok0:=newCrk_ok hv
 have hO:repO xs gs=repl (newCrk xs) gs:=by rw [repO,if_pos hv]
 refine G_skip ?_
 refine G_seq ?_
 refine g_tidy_A37_0 [0,1,4,5,15] ?_
 refine G_region' (L:=[0,1,2,3]) rfl ?_
 refine xmv ?_
 refine x_call rfl rfl rfl rfl rfl ca_46 (c_impl_NewCracker xs hb.1) ?_
 rintro r S ⟨rfl,rfl⟩
 refine x_alloc rfl rfl rfl rfl za_42 ?_
 refine EOps_go rfl rfl (EOp_store rfl rfl rfl (xb1 ty_42) ?_)
 refine EOps_nil ?_
 refine G_seq ?_
 refine G_seq ?_
 refine G_region' (L:=[0,1,2]) rfl ?_
 refine xmv ?_
 refine p_ rfl (l_len rfl sl_50) ?_
 refine xmv ?_
 refine EOps_nil ?_
 refine G_block ?_
 refine g_forD_A37_1 (α:=Nat × Crk) [0,1,4,6,15,19,20] (fun (k,cur)=>[(21,.c (.sc (.int .i64 (k))))]) (fun (k,cur)=>[.box [.sc (.slice none 0 0),.sc (.slice none 0 0),.sc (.slice none 0 0)],.row 3 1 (ints cur.vals),.row 3 1 (ints cur.rows),.row 87 2 (pairs cur.piv),.box (crkO 1 cur)]) (fun (k,cur)=>k≤gs.length∧isCrk cur=true∧repl cur (gs.drop k)=repl (newCrk xs) gs) (fun (k,cur)=>gs.length - k) ((0,newCrk xs)) ?_ (rfl) ⟨.inr rfl,trivial⟩ ?_
 ·exact⟨Nat.zero_le _,hok0,rfl⟩
 rintro⟨k,cur⟩ ⟨hk,hcur,hres⟩
 dsimp only
 have hl:=crk_lens hcur
 refine G_seq ?_
 refine G_region' (L:=[0]) rfl ?_
 refine p_ rfl (L_bin rfl rfl rfl rfl) ?_
 refine EOps_nil ?_
 refine G_seq ?_
 refine G_cond rfl (fun hc22=>?_) (fun hc22=>?_)
 ·have hk1 : k < gs.length := by simpa [quints_len] using hc22
  obtain⟨g,hg⟩:=at_lt hk1
  have hrs:=repl_at (c:=cur) hg
  have hcok:=fun h=>crackC_ok (v:=g.2.1) hcur h
  refine G_skip ?_
  refine G_seq ?_
  refine G_block ?_
  refine G_seq ?_
  refine G_region' (L:=[0,1,2,3]) rfl ?_
  refine p_ rfl (L_index rfl rfl (xii sl_50 ty_76)) ?_
  refine l_ rfl (L_load rfl (xb0 ty_76)) ?_
  refine x_alloc rfl rfl rfl rfl za_76 ?_
  refine EOps_go rfl rfl (EOp_store rfl rfl rfl (xb1 ty_76) ?_)
  refine EOps_nil ?_
  refine G_seq ?_
  refine G_seq ?_
  refine g_tidy_A37_0 [0,1,4,5,6,8,9,10,11,12,15,19,20,21,22,34,66] ?_
  refine G_region' (L:=[0,1,2,3,4,5,6,7,8,9]) rfl ?_
  refine p_ rfl (l_field rfl fo_76_1) ?_
  refine l_ rfl (L_load rfl (xb0 ty_3)) ?_
  refine x_call rfl rfl rfl rfl rfl ca_47 (c_impl_bound g.2.1) ?_
  rintro r S ⟨rfl,rfl⟩
  refine p_ rfl (L_not rfl rfl) ?_
  refine xmv ?_
  refine EOps_split 29 (b:=_) rfl (fun hg29=>?_) (fun hg29=>?_)
  ·refine s_ rfl ?_
   refine s_ rfl ?_
   refine s_ rfl ?_
   refine s_ rfl ?_
   refine p_ rfl (L_pick rfl rfl) ?_
   refine EOps_nil ?_
   refine G_cond rfl (fun hc34=>?_) (fun hc34=>?_)
   ·have hs : stepK cur g = false := by
     cases hs:stepK cur g
     ·rfl
     exfalso
     obtain⟨q1,q2,q3,q4,q5⟩:=stepK_parts hs
     have q1':isIn g.2.1 (-1000) 1000=true:=q1
     first
      | (rw [q1'] at hg29;exact Bool.noConfusion hg29)
      | (rw [q2] at hc34;exact Bool.noConfusion hc34)
    rw [if_neg (by simp [hs])] at hrs
    obtain⟨hr1,hr2⟩:=rep_none (hO.trans (hres.symm.trans hrs))
    refine G_seq ?_
    refine G_region' (L:=[0,1,2]) rfl ?_
    refine p_ rfl (L_build rfl bd_42 rfl rfl) ?_
    refine EOps_go rfl rfl (EOp_store rfl rfl rfl (xb1 ty_42) ?_)
    refine xas ?_
    refine EOps_nil ?_
    refine G_ghostB 0 0 3 1 rfl rfl (by decide) ?_
    refine G_ghostB 0 1 3 1 rfl rfl (by decide) ?_
    refine G_ghostB 0 2 87 2 rfl rfl (by decide) ?_
    refine G_ret ?_
    refine⟨_,[6,7,8],rfl,rfl,?_,?_⟩
    ·rw [hr1,hr2];rfl
    rw [hr1];rfl
   exact Bool.noConfusion (hc34:true=false)
  refine l_ rfl (L_load rfl (xb2 ty_42)) ?_
  refine p_ rfl (l_field rfl fo_76_1) ?_
  refine l_ rfl (L_load rfl (xb0 ty_3)) ?_
  refine x_call rfl rfl rfl rfl rfl ca_48 (c_impl_isPivot cur g.2.1 (by omega)) ?_
  rintro r S ⟨rfl,rfl⟩
  refine p_ rfl (L_pick rfl rfl) ?_
  refine EOps_nil ?_
  refine G_cond rfl (fun hc34=>?_) (fun hc34=>?_)
  ·have hs : stepK cur g = false := by
    cases hs:stepK cur g
    ·rfl
    exfalso
    obtain⟨q1,q2,q3,q4,q5⟩:=stepK_parts hs
    have q1':isIn g.2.1 (-1000) 1000=true:=q1
    first
     | (rw [q1'] at hg29;exact Bool.noConfusion hg29)
     | (rw [q2] at hc34;exact Bool.noConfusion hc34)
   rw [if_neg (by simp [hs])] at hrs
   obtain⟨hr1,hr2⟩:=rep_none (hO.trans (hres.symm.trans hrs))
   refine G_seq ?_
   refine G_region' (L:=[0,1,2]) rfl ?_
   refine p_ rfl (L_build rfl bd_42 rfl rfl) ?_
   refine EOps_go rfl rfl (EOp_store rfl rfl rfl (xb1 ty_42) ?_)
   refine xas ?_
   refine EOps_nil ?_
   refine G_ghostB 0 0 3 1 rfl rfl (by decide) ?_
   refine G_ghostB 0 1 3 1 rfl rfl (by decide) ?_
   refine G_ghostB 0 2 87 2 rfl rfl (by decide) ?_
   refine G_ret ?_
   refine⟨_,[6,7,8],rfl,rfl,?_,?_⟩
   ·rw [hr1,hr2];rfl
   rw [hr1];rfl
  have hbv : bnd g.2.1 = true := by simpa [bnd] using hg29
  have hnp:isPv cur.piv g.2.1=false:=hc34
  have hco:=hcok hbv
  refine G_skip ?_
  refine G_seq ?_
  refine g_tidy_A37_0 [0,1,4,5,6,8,9,10,11,12,15,19,20,21,22,34,66] ?_
  refine G_region' (L:=[0,1,2,3,4,5,6,7,8]) rfl ?_
  refine l_ rfl (L_load rfl (xb0 ty_42)) ?_
  refine p_ rfl (l_field rfl fo_76_1) ?_
  refine l_ rfl (L_load rfl (xb0 ty_3)) ?_
  refine x_call rfl rfl rfl rfl rfl ca_49 (c_impl_piece cur g.2.1 ⟨by omega,by omega⟩) ?_
  rintro r S ⟨rfl,rfl⟩
  refine xmv ?_
  refine p_ rfl (L_extract rfl rfl) ?_
  refine p_ rfl (L_extract rfl rfl) ?_
  refine xas ?_
  refine xas ?_
  refine EOps_nil ?_
  refine G_seq ?_
  refine g_tidy_A37_0 [0,1,4,5,6,8,9,10,11,12,15,19,20,21,22,34,66] ?_
  refine G_region' (L:=[0,1,2,3,4,5,6,7,8,9]) rfl ?_
  refine l_ rfl (L_load rfl (xb0 ty_42)) ?_
  refine p_ rfl (l_field rfl fo_76_1) ?_
  refine l_ rfl (L_load rfl (xb0 ty_3)) ?_
  refine x_call rfl rfl rfl rfl rfl ca_50 (c_impl_crack cur g.2.1 hcur hbv) ?_
  rintro r S ⟨rfl,rfl⟩
  rw [crkT]
  generalize hP:crackC cur g.2.1=P at *
  obtain⟨c2,s2⟩:=P
  dsimp only at hco hrs
  refine xmv ?_
  refine p_ rfl (L_extract rfl rfl) ?_
  refine p_ rfl (L_extract rfl rfl) ?_
  refine x_alloc rfl rfl rfl rfl za_42 ?_
  refine EOps_go rfl rfl (EOp_store rfl rfl rfl (xb1 ty_42) ?_)
  refine xas ?_
  refine EOps_nil ?_
  refine G_seq ?_
  refine G_seq ?_
  refine G_region' (L:=[0,1,2,3,4,5,6,7,8,9,10,11,12,13,14,15,16]) rfl ?_
  refine xmv ?_
  refine p_ rfl (l_field rfl fo_76_2) ?_
  refine l_ rfl (L_load rfl (xb0 ty_3)) ?_
  refine p_ rfl (L_bin rfl rfl rfl rfl) ?_
  refine xmv ?_
  refine EOps_split 54 (b:=_) rfl (fun hg54=>?_) (fun hg54=>?_)
  ·refine s_ rfl ?_
   refine s_ rfl ?_
   refine x_tidy [0,1,4,5,6,8,9,10,11,12,15,19,20,21,22,34,54,55,56] ?_ (by simp only [E.keepOf,E.get,E.ev,E.cv,E.fill',E.fill,E.slotsOf,Res.sh,AC.sh,AC.sh.shs,AV.sh,E.splice,List.map_cons,List.map_nil,List.cons_append,List.nil_append,List.append_nil,List.length_cons,List.length_nil,List.take_zero,List.drop_zero,List.take_succ_cons,List.drop_succ_cons,List.drop_nil,List.take_nil,List.set_cons_zero,List.set_cons_succ,Nat.zero_add,Nat.add_zero,Nat.reduceAdd,Nat.reduceSub,reduceIte,Nat.reduceEqDiff,E.back,E.backR,E.ix,Res.un,AC.un,AC.un.uns,AV.un,E.un,Option.map_some,Option.map_none,Option.getD_some,List.getElem?_cons_zero,List.getElem?_cons_succ,List.getElem?_nil,crkR,crkO];rfl)
   refine s_ rfl ?_
   refine s_ rfl ?_
   refine p_ rfl (L_pick rfl rfl) ?_
   refine x_tidy [0,1,4,5,6,8,9,10,11,12,15,19,20,21,22,34,59] ?_ (by simp only [E.keepOf,E.get,E.ev,E.cv,E.fill',E.fill,E.slotsOf,Res.sh,AC.sh,AC.sh.shs,AV.sh,E.splice,List.map_cons,List.map_nil,List.cons_append,List.nil_append,List.append_nil,List.length_cons,List.length_nil,List.take_zero,List.drop_zero,List.take_succ_cons,List.drop_succ_cons,List.drop_nil,List.take_nil,List.set_cons_zero,List.set_cons_succ,Nat.zero_add,Nat.add_zero,Nat.reduceAdd,Nat.reduceSub,reduceIte,Nat.reduceEqDiff,E.back,E.backR,E.ix,Res.un,AC.un,AC.un.uns,AV.un,E.un,Option.map_some,Option.map_none,Option.getD_some,List.getElem?_cons_zero,List.getElem?_cons_succ,List.getElem?_nil,crkR,crkO];rfl)
   refine xmv ?_
   refine s_ rfl ?_
   refine s_ rfl ?_
   refine s_ rfl ?_
   refine s_ rfl ?_
   refine s_ rfl ?_
   refine p_ rfl (L_pick rfl rfl) ?_
   refine EOps_nil ?_
   refine G_cond rfl (fun hc66=>?_) (fun hc66=>?_)
   ·have hs : stepK cur g = false := by
     cases hs:stepK cur g
     ·rfl
     exfalso
     obtain⟨q1,q2,q3,q4,q5⟩:=stepK_parts hs
     rw [hP] at q5
     first
      | (rw [q3] at hg54;simp at hg54;done)
      | (rw [q4] at hg60;simp at hg60;done)
      | (dsimp only at q5;rw [q5] at hc66;simp at hc66;done)
    rw [if_neg (by simp [hs])] at hrs
    obtain⟨hr1,hr2⟩:=rep_none (hO.trans (hres.symm.trans hrs))
    refine G_seq ?_
    refine G_region' (L:=[0,1,2]) rfl ?_
    refine p_ rfl (L_build rfl bd_42 rfl rfl) ?_
    refine EOps_go rfl rfl (EOp_store rfl rfl rfl (xb1 ty_42) ?_)
    refine xas ?_
    refine EOps_nil ?_
    refine G_ghostB 0 0 3 1 rfl rfl (by decide) ?_
    refine G_ghostB 0 1 3 1 rfl rfl (by decide) ?_
    refine G_ghostB 0 2 87 2 rfl rfl (by decide) ?_
    refine G_ret ?_
    refine⟨_,[11,12,13],rfl,rfl,?_,?_⟩
    ·rw [hr1,hr2];rfl
    rw [hr1];rfl
   exact Bool.noConfusion (hc66:true=false)
  refine xmv ?_
  refine p_ rfl (l_field rfl fo_76_3) ?_
  refine x_tidy [0,1,4,5,6,8,9,10,11,12,15,19,20,21,22,34,54,55,56] ?_ (by simp only [E.keepOf,E.get,E.ev,E.cv,E.fill',E.fill,E.slotsOf,Res.sh,AC.sh,AC.sh.shs,AV.sh,E.splice,List.map_cons,List.map_nil,List.cons_append,List.nil_append,List.append_nil,List.length_cons,List.length_nil,List.take_zero,List.drop_zero,List.take_succ_cons,List.drop_succ_cons,List.drop_nil,List.take_nil,List.set_cons_zero,List.set_cons_succ,Nat.zero_add,Nat.add_zero,Nat.reduceAdd,Nat.reduceSub,reduceIte,Nat.reduceEqDiff,E.back,E.backR,E.ix,Res.un,AC.un,AC.un.uns,AV.un,E.un,Option.map_some,Option.map_none,Option.getD_some,List.getElem?_cons_zero,List.getElem?_cons_succ,List.getElem?_nil,crkR,crkO];rfl)
  refine l_ rfl (L_load rfl (xb0 ty_3)) ?_
  refine p_ rfl (L_bin rfl rfl rfl rfl) ?_
  refine p_ rfl (L_pick rfl rfl) ?_
  refine x_tidy [0,1,4,5,6,8,9,10,11,12,15,19,20,21,22,34,59] ?_ (by simp only [E.keepOf,E.get,E.ev,E.cv,E.fill',E.fill,E.slotsOf,Res.sh,AC.sh,AC.sh.shs,AV.sh,E.splice,List.map_cons,List.map_nil,List.cons_append,List.nil_append,List.append_nil,List.length_cons,List.length_nil,List.take_zero,List.drop_zero,List.take_succ_cons,List.drop_succ_cons,List.drop_nil,List.take_nil,List.set_cons_zero,List.set_cons_succ,Nat.zero_add,Nat.add_zero,Nat.reduceAdd,Nat.reduceSub,reduceIte,Nat.reduceEqDiff,E.back,E.backR,E.ix,Res.un,AC.un,AC.un.uns,AV.un,E.un,Option.map_some,Option.map_none,Option.getD_some,List.getElem?_cons_zero,List.getElem?_cons_succ,List.getElem?_nil,crkR,crkO];rfl)
  refine xmv ?_
  refine EOps_split 60 (b:=_) rfl (fun hg60=>?_) (fun hg60=>?_)
  ·refine s_ rfl ?_
   refine s_ rfl ?_
   refine s_ rfl ?_
   refine s_ rfl ?_
   refine s_ rfl ?_
   refine p_ rfl (L_pick rfl rfl) ?_
   refine EOps_nil ?_
   refine G_cond rfl (fun hc66=>?_) (fun hc66=>?_)
   ·have hs : stepK cur g = false := by
     cases hs:stepK cur g
     ·rfl
     exfalso
     obtain⟨q1,q2,q3,q4,q5⟩:=stepK_parts hs
     rw [hP] at q5
     first
      | (rw [q3] at hg54;simp at hg54;done)
      | (rw [q4] at hg60;simp at hg60;done)
      | (dsimp only at q5;rw [q5] at hc66;simp at hc66;done)
    rw [if_neg (by simp [hs])] at hrs
    obtain⟨hr1,hr2⟩:=rep_none (hO.trans (hres.symm.trans hrs))
    refine G_seq ?_
    refine G_region' (L:=[0,1,2]) rfl ?_
    refine p_ rfl (L_build rfl bd_42 rfl rfl) ?_
    refine EOps_go rfl rfl (EOp_store rfl rfl rfl (xb1 ty_42) ?_)
    refine xas ?_
    refine EOps_nil ?_
    refine G_ghostB 0 0 3 1 rfl rfl (by decide) ?_
    refine G_ghostB 0 1 3 1 rfl rfl (by decide) ?_
    refine G_ghostB 0 2 87 2 rfl rfl (by decide) ?_
    refine G_ret ?_
    refine⟨_,[11,12,13],rfl,rfl,?_,?_⟩
    ·rw [hr1,hr2];rfl
    rw [hr1];rfl
   exact Bool.noConfusion (hc66:true=false)
  refine xmv ?_
  refine p_ rfl (l_len rfl sl_81) ?_
  refine p_ rfl (l_field rfl fo_76_4) ?_
  refine l_ rfl (L_load rfl (xb0 ty_3)) ?_
  refine p_ rfl (L_bin rfl rfl rfl rfl) ?_
  refine p_ rfl (L_pick rfl rfl) ?_
  refine EOps_nil ?_
  refine G_cond rfl (fun hc66=>?_) (fun hc66=>?_)
  ·have hs : stepK cur g = false := by
    cases hs:stepK cur g
    ·rfl
    exfalso
    obtain⟨q1,q2,q3,q4,q5⟩:=stepK_parts hs
    rw [hP] at q5
    first
     | (rw [q3] at hg54;simp at hg54;done)
     | (rw [q4] at hg60;simp at hg60;done)
     | (dsimp only at q5;rw [q5] at hc66;simp at hc66;done)
   rw [if_neg (by simp [hs])] at hrs
   obtain⟨hr1,hr2⟩:=rep_none (hO.trans (hres.symm.trans hrs))
   refine G_seq ?_
   refine G_region' (L:=[0,1,2]) rfl ?_
   refine p_ rfl (L_build rfl bd_42 rfl rfl) ?_
   refine EOps_go rfl rfl (EOp_store rfl rfl rfl (xb1 ty_42) ?_)
   refine xas ?_
   refine EOps_nil ?_
   refine G_ghostB 0 0 3 1 rfl rfl (by decide) ?_
   refine G_ghostB 0 1 3 1 rfl rfl (by decide) ?_
   refine G_ghostB 0 2 87 2 rfl rfl (by decide) ?_
   refine G_ret ?_
   refine⟨_,[11,12,13],rfl,rfl,?_,?_⟩
   ·rw [hr1,hr2];rfl
   rw [hr1];rfl
  have hs : stepK cur g = true := by
   refine stepK_mk hbv hnp ?_ ?_ ?_
   ·simpa using hg54
   ·simpa using hg60
   rw [hP];simpa using hc66
  rw [if_pos hs] at hrs
  refine G_skip ?_
  refine G_region' (L:=[0,1]) rfl ?_
  refine l_ rfl (L_load rfl (xb0 ty_42)) ?_
  refine EOps_go rfl rfl (EOp_store rfl rfl rfl (xb1 ty_42) ?_)
  refine EOps_nil ?_
  refine G_region' (L:=[0,1]) rfl ?_
  refine p_ rfl xb3 ?_
  refine xmv ?_
  refine EOps_nil ?_
  refine⟨[0,6,7,8,4],rfl,(k+1,c2),?_,?_,rfl,⟨.inr (int_eq (by first|rfl|omega|(dsimp only;done)|(dsimp only;omega)|(simp;done))),trivial⟩,⟨.inr rfl,.inr rfl,.inr rfl,.inr rfl,.inr rfl,.inr rfl,.inr rfl,trivial⟩⟩
  ·first|omega|(dsimp only;omega)|(simp;omega)
  exact⟨by dsimp only;omega,hco.1,hrs.symm.trans hres⟩
 have hk2 : gs.drop k = [] := List.drop_of_length_le (by simpa [quints_len] using hc22)
 rw [hk2] at hres
 obtain⟨hr1,hr2⟩:=rep_some (hO.trans hres.symm)
 refine G_exit ?_
 refine G_seq ?_
 refine G_region' (L:=[0,1,2]) rfl ?_
 refine l_ rfl (L_load rfl (xb0 ty_42)) ?_
 refine EOps_go rfl rfl (EOp_store rfl rfl rfl (xb1 ty_42) ?_)
 refine xas ?_
 refine EOps_nil ?_
 refine G_ret ?_
 refine⟨_,[1,2,3],rfl,rfl,?_,?_⟩
 ·rw [hr1,hr2];rfl
 rw [hr1];rfl

end Go.Proofs.YtjbbjicochipeaaGreat.E
