/- Walks through functions, by program out of the session's annotations. -/
import Derived.Test.YtlodlnbhjghjoaaGreatA103
import Derived.Test.YtlodlnbhjghjoaaGreatA29
import Derived.Test.YtlodlnbhjghjoaaGreatA51
import Derived.Test.YtlodlnbhjghjoaaGreatF2
namespace Go.Proofs.YtlodlnbhjghjoaaGreat.E
open Go Go.RowKit Go.Proofs
set_option linter.unusedVariables false
set_option linter.unusedSimpArgs false

def mgK (c:Crk) (p:Pnd) (r:Int × Int):Bool:=isPnd c p && isRng r
def mgC (c:Crk) (p:Pnd) (r:Int × Int):Crk:=if mgK c p r=true then (mI c p r p.ins.length).1 else c
def mgP (c:Crk) (p:Pnd) (r:Int × Int):Pnd:=if mgK c p r=true then ⟨(mI c p r p.ins.length).2.1,(mD c p r p.del.length).2.1⟩ else p
def mgN (c:Crk) (p:Pnd) (r:Int × Int):Int:=if mgK c p r=true then (mI c p r p.ins.length).2.2 else 0
theorem mgK_parts {c:Crk} {p:Pnd} {r:Int × Int} (h:mgK c p r=true):isPnd c p=true∧isRng r=true:=by simpa [mgK] using h
theorem mD_t {c : Crk} {p : Pnd} {r : Int × Int} {k : Nat} {w : Int} {X : Crk} {L : List Int} {m : Int} (hw : p.del[k]? = some w) (h : mD c p r k = (X, L, m)) (hin : inR r (valAt c w) = true) : mD c p r (k + 1) = (dRow X w, L, m + dRowN X w) := by
 rw [mD,getD_of hw,if_pos hin,h]
theorem mD_f {c : Crk} {p : Pnd} {r : Int × Int} {k : Nat} {w : Int} {X : Crk} {L : List Int} {m : Int} (hw : p.del[k]? = some w) (h : mD c p r k = (X, L, m)) (hin : ¬ inR r (valAt c w) = true) : mD c p r (k + 1) = (X, L ++ [w], m) := by
 rw [mD,getD_of hw,if_neg hin,h]
theorem mI_t {c : Crk} {p : Pnd} {r : Int × Int} {k : Nat} {x : Int × Int} {X : Crk} {L : List (Int × Int)} {m : Int} (hx : p.ins[k]? = some x) (h : mI c p r k = (X, L, m)) (hin : inR r x.1 = true) : mI c p r (k + 1) = (ripI X x, L ++ [], m + ripIn X x) := by
 rw [mI,getD_of hx,if_pos hin,h,List.append_nil]
theorem mI_f {c : Crk} {p : Pnd} {r : Int × Int} {k : Nat} {x : Int × Int} {X : Crk} {L : List (Int × Int)} {m : Int} (hx : p.ins[k]? = some x) (h : mI c p r k = (X, L, m)) (hin : ¬ inR r x.1 = true) : mI c p r (k + 1) = (X, L ++ [x], m) := by
 rw [mI,getD_of hx,if_neg hin,h]
theorem dRowN_bd (X : Crk) (w : Int) : 0 ≤ dRowN X w ∧ dRowN X w ≤ X.piv.length + 1 := by
 have hb:=delZ_bd (X.vals.getD (rowIx X.rows w).toNat 0) X.piv.length 0 (zpC X) X.piv (rowIx X.rows w).toNat 0
 rw [dRowN,ripDn,delRz]
 split<;>omega
theorem ripIn_bd (X : Crk) (x : Int × Int) : 0 ≤ ripIn X x ∧ ripIn X x ≤ X.piv.length := by
 have hb:=insZ_bd x.1 X.piv.length (zpC X++[x]) X.piv X.vals.length 0
 rw [ripIn,insR]
 omega

theorem g_tidy_A104_0 {P:Program} {N n:Nat} {s:Slots} {R:List Res} {Q:Exit→Slots→List Res→Prop} {c:Code} (keep:List Nat) {base:Slots} {R':List Res} (h:GCode P N n c base R' Q) (hb:keepOf s keep=base:=by simp only [E.keepOf,E.get,E.ev,E.cv,E.fill',E.fill,E.slotsOf,Res.sh,AC.sh,AC.sh.shs,AV.sh,E.splice,List.map_cons,List.map_nil,List.cons_append,List.nil_append,List.append_nil,List.length_cons,List.length_nil,List.take_zero,List.drop_zero,List.take_succ_cons,List.drop_succ_cons,List.drop_nil,List.take_nil,List.set_cons_zero,List.set_cons_succ,Nat.zero_add,Nat.add_zero,Nat.reduceAdd,Nat.reduceSub,reduceIte,Nat.reduceEqDiff,E.back,E.backR,E.ix,Res.un,AC.un,AC.un.uns,AV.un,E.un,Option.map_some,Option.map_none,Option.getD_some,List.getElem?_cons_zero,List.getElem?_cons_succ,List.getElem?_nil,crkR,crkO,pndO,pndR,ints_app,ints_lenApp,pairs_app,pairs_lenApp];rfl) (hR:R=R':=by (try simp only [E.keepOf,E.get,E.ev,E.cv,E.fill',E.fill,E.slotsOf,Res.sh,AC.sh,AC.sh.shs,AV.sh,E.splice,List.map_cons,List.map_nil,List.cons_append,List.nil_append,List.append_nil,List.length_cons,List.length_nil,List.take_zero,List.drop_zero,List.take_succ_cons,List.drop_succ_cons,List.drop_nil,List.take_nil,List.set_cons_zero,List.set_cons_succ,Nat.zero_add,Nat.add_zero,Nat.reduceAdd,Nat.reduceSub,reduceIte,Nat.reduceEqDiff,E.back,E.backR,E.ix,Res.un,AC.un,AC.un.uns,AV.un,E.un,Option.map_some,Option.map_none,Option.getD_some,List.getElem?_cons_zero,List.getElem?_cons_succ,List.getElem?_nil,crkR,crkO,pndO,pndR,ints_app,ints_lenApp,pairs_app,pairs_lenApp]);rfl):GCode P N n c s R Q:=G_tidy keep hb hR h
theorem g_forD_A104_1 {P : Program} {N n : Nat} {s : Slots} {R : List Res} {Q : Exit → Slots → List Res → Prop} {α : Type} {c : Code} (keep : List Nat) (mods : α → Slots) (Rf : α → List Res) (I : α → Prop) (m : α → Nat) (x0 : α) {base : Slots} (h0 : I x0) (hR : R = Rf x0) (h1 : chk s (mods x0))
  (round:∀ x,I x→GCode P N n c (mods x++base) (Rf x) (EThen (fun s' R'=>∃ σ,okσ n R' σ=true ∧ ∃ y,m y<m x∧I y∧reR n σ R'=Rf y∧chk (renS n σ s') (mods y)∧chk (renS n σ s') base) Q)) (hb:keepOf s keep=base:=by simp only [E.keepOf,E.get,E.ev,E.cv,E.fill',E.fill,E.slotsOf,Res.sh,AC.sh,AC.sh.shs,AV.sh,E.splice,List.map_cons,List.map_nil,List.cons_append,List.nil_append,List.append_nil,List.length_cons,List.length_nil,List.take_zero,List.drop_zero,List.take_succ_cons,List.drop_succ_cons,List.drop_nil,List.take_nil,List.set_cons_zero,List.set_cons_succ,Nat.zero_add,Nat.add_zero,Nat.reduceAdd,Nat.reduceSub,reduceIte,Nat.reduceEqDiff,E.back,E.backR,E.ix,Res.un,AC.un,AC.un.uns,AV.un,E.un,Option.map_some,Option.map_none,Option.getD_some,List.getElem?_cons_zero,List.getElem?_cons_succ,List.getElem?_nil,crkR,crkO,pndO,pndR,ints_app,ints_lenApp,pairs_app,pairs_lenApp];rfl):GCode P N n (.loop c) s R Q:=G_forD keep mods Rf I m x0 hb h0 hR h1 round

set_option maxRecDepth 20000 in
set_option maxHeartbeats 8000000 in
theorem c_impl_MergeRange (c : Crk) (p : Pnd) (r : Int × Int) (hb : (c.vals.length ≤ 1048576 ∧ c.rows.length ≤ 1048576 ∧ c.piv.length ≤ 1048576) ∧ p.ins.length ≤ 1048576 ∧ p.del.length ≤ 1048576) : EFn Tryz.prog 70 [.agg (crkC c), .agg (pndC p), .agg [.sc (.int .i64 r.1), .sc (.int .i64 r.2)]] [] (fun y S => y = .tup [(true, crkO 0 (mgC c p r)), (true, pndO 3 (mgP c p r)), (false, [.sc (.int .i64 (mgN c p r))])] ∧ S = crkR 3 151 (mgC c p r) ++ pndR 3 104 (mgP c p r)) := by
 refine E_fn Tryz.func70 rfl (Nat.le_of_ble_eq_true rfl) ?_
 refine E_G (n:=0) rfl ?_
 refine G_seq ?_
 refine G_region' (L:=[0,1,2,3,4,5]) rfl ?_
 refine x_box rfl rfl rfl rfl rfl ?_
 refine x_box rfl rfl rfl rfl rfl ?_
 refine x_box rfl rfl rfl rfl rfl ?_
 refine x_alloc rfl rfl rfl rfl za_49 ?_
 refine x_alloc rfl rfl rfl rfl za_91 ?_
 refine xas ?_
 refine EOps_nil ?_
 refine G_seq ?_
 refine g_tidy_A104_0 [0,1,2,3,4,5,6,7,8] ?_
 refine G_region' (L:=[0,1,2,3,4,5,6,7]) rfl ?_
 refine l_ rfl (L_load rfl (xb0 ty_49)) ?_
 refine x_call rfl rfl rfl rfl rfl ca_104 (c_impl_copyCracker c hb.1) ?_
 rintro r S ⟨rfl,rfl⟩
 refine p_ rfl (L_build rfl bd_91 rfl rfl) ?_
 refine x_alloc rfl rfl rfl rfl za_49 ?_
 refine x_alloc rfl rfl rfl rfl za_91 ?_
 refine EOps_go rfl rfl (EOp_store rfl rfl rfl (xb1 ty_49) ?_)
 refine EOps_go rfl rfl (EOp_store rfl rfl rfl (xb1 ty_91) ?_)
 refine xas ?_
 refine EOps_nil ?_
 refine G_seq ?_
 refine G_seq ?_
 refine g_tidy_A104_0 [0,1,2,3,4,5,6,7,8,9,10,11] ?_
 refine G_region' (L:=[0,1,2,3,4,5,6,7,8]) rfl ?_
 refine l_ rfl (L_load rfl (xb0 ty_49)) ?_
 refine l_ rfl (L_load rfl (xb0 ty_91)) ?_
 refine x_call rfl rfl rfl rfl rfl ca_74 (c_impl_IsPending c p ⟨hb.1.2.1,by omega⟩) ?_
 rintro r S ⟨rfl,rfl⟩
 refine p_ rfl (L_not rfl rfl) ?_
 refine xmv ?_
 refine EOps_split 29 (b:=_) rfl (fun hg29=>?_) (fun hg29=>?_)
 ·refine s_ rfl ?_
  refine s_ rfl ?_
  refine s_ rfl ?_
  refine p_ rfl (L_pick rfl rfl) ?_
  refine EOps_nil ?_
  refine G_cond rfl (fun hc33=>?_) (fun hc33=>?_)
  ·have hk : mgK c p r = false := by
    simp only [mgK]
    first|(simp_all;done)|simp_all
   have hcc:mgC c p r=c∧mgP c p r=p∧mgN c p r=0:=by simp [mgC,mgP,mgN,hk]
   refine G_seq ?_
   refine g_tidy_A104_0 [0,1,2,3,4,5,6,7,8,9,10,11,33] ?_
   refine G_drawU mixed ?_
   refine u_any 0 [1] ⟨?_,?_,trivial⟩
   ·refine u_op 0 rfl rfl (EOp_light rfl (by decide) (L_load rfl (xb3 ty_49)) ?_)
    refine u_any 1 [] ⟨?_,trivial⟩
    refine u_op 1 rfl rfl (EOp_light rfl (by decide) (L_load rfl (xb0 ty_91)) ?_)
    refine u_any 2 [] ⟨?_,trivial⟩
    refine u_call 2 rfl rfl rfl rfl rfl ca_140 (c_impl_copyPending p hb.2) ?_
    rintro r S ⟨rfl,rfl⟩
    refine u_any 3 [] ⟨?_,trivial⟩
    refine u_op 3 rfl rfl (EOp_store rfl rfl rfl (xb1 ty_49) ?_)
    refine u_any 4 [] ⟨?_,trivial⟩
    refine u_op 4 rfl rfl (EOp_store rfl rfl rfl (xb1 ty_91) ?_)
    refine up_ 5 rfl (L_assign rfl) ?_
    refine u_done ?_
    refine G_ret ?_
    rw [hcc.1,hcc.2.1,hcc.2.2]
    first
     | exact⟨_,[5,6,7,10,11],rfl,rfl,rfl,rfl⟩
     | exact⟨_,[5,6,7,11,10],rfl,rfl,rfl,rfl⟩
   refine u_op 1 rfl rfl (EOp_light rfl (by decide) (L_load rfl (xb3 ty_91)) ?_)
   refine u_any 0 [2] ⟨?_,?_,trivial⟩
   ·refine u_op 0 rfl rfl (EOp_light rfl (by decide) (L_load rfl (xb3 ty_49)) ?_)
    refine u_any 2 [] ⟨?_,trivial⟩
    refine u_call 2 rfl rfl rfl rfl rfl ca_140 (c_impl_copyPending p hb.2) ?_
    rintro r S ⟨rfl,rfl⟩
    refine u_any 3 [] ⟨?_,trivial⟩
    refine u_op 3 rfl rfl (EOp_store rfl rfl rfl (xb1 ty_49) ?_)
    refine u_any 4 [] ⟨?_,trivial⟩
    refine u_op 4 rfl rfl (EOp_store rfl rfl rfl (xb1 ty_91) ?_)
    refine up_ 5 rfl (L_assign rfl) ?_
    refine u_done ?_
    refine G_ret ?_
    rw [hcc.1,hcc.2.1,hcc.2.2]
    first
     | exact⟨_,[5,6,7,10,11],rfl,rfl,rfl,rfl⟩
     | exact⟨_,[5,6,7,11,10],rfl,rfl,rfl,rfl⟩
   refine u_call 2 rfl rfl rfl rfl rfl ca_140 (c_impl_copyPending p hb.2) ?_
   rintro r S ⟨rfl,rfl⟩
   refine u_any 0 [] ⟨?_,trivial⟩
   refine u_op 0 rfl rfl (EOp_light rfl (by decide) (L_load rfl (xb0 ty_49)) ?_)
   refine u_any 3 [] ⟨?_,trivial⟩
   refine u_op 3 rfl rfl (EOp_store rfl rfl rfl (xb1 ty_49) ?_)
   refine u_any 4 [] ⟨?_,trivial⟩
   refine u_op 4 rfl rfl (EOp_store rfl rfl rfl (xb1 ty_91) ?_)
   refine up_ 5 rfl (L_assign rfl) ?_
   refine u_done ?_
   refine G_ret ?_
   rw [hcc.1,hcc.2.1,hcc.2.2]
   first
    | exact⟨_,[5,6,7,10,11],rfl,rfl,rfl,rfl⟩
    | exact⟨_,[5,6,7,11,10],rfl,rfl,rfl,rfl⟩
  exact Bool.noConfusion (hc33:true=false)
 refine l_ rfl (L_load rfl (xb3 ty_53)) ?_
 refine x_call rfl rfl rfl rfl rfl ca_103 (c_impl_IsRange r) ?_
 rintro r S ⟨rfl,rfl⟩
 refine p_ rfl (L_not rfl rfl) ?_
 refine p_ rfl (L_pick rfl rfl) ?_
 refine EOps_nil ?_
 refine G_cond rfl (fun hc33=>?_) (fun hc33=>?_)
 ·have hk : mgK c p r = false := by
   simp only [mgK]
   first|(simp_all;done)|simp_all
  have hcc:mgC c p r=c∧mgP c p r=p∧mgN c p r=0:=by simp [mgC,mgP,mgN,hk]
  refine G_seq ?_
  refine g_tidy_A104_0 [0,1,2,3,4,5,6,7,8,9,10,11,33] ?_
  refine G_drawU mixed ?_
  refine u_any 0 [1] ⟨?_,?_,trivial⟩
  ·refine u_op 0 rfl rfl (EOp_light rfl (by decide) (L_load rfl (xb3 ty_49)) ?_)
   refine u_any 1 [] ⟨?_,trivial⟩
   refine u_op 1 rfl rfl (EOp_light rfl (by decide) (L_load rfl (xb0 ty_91)) ?_)
   refine u_any 2 [] ⟨?_,trivial⟩
   refine u_call 2 rfl rfl rfl rfl rfl ca_140 (c_impl_copyPending p hb.2) ?_
   rintro r S ⟨rfl,rfl⟩
   refine u_any 3 [] ⟨?_,trivial⟩
   refine u_op 3 rfl rfl (EOp_store rfl rfl rfl (xb1 ty_49) ?_)
   refine u_any 4 [] ⟨?_,trivial⟩
   refine u_op 4 rfl rfl (EOp_store rfl rfl rfl (xb1 ty_91) ?_)
   refine up_ 5 rfl (L_assign rfl) ?_
   refine u_done ?_
   refine G_ret ?_
   rw [hcc.1,hcc.2.1,hcc.2.2]
   first
    | exact⟨_,[5,6,7,10,11],rfl,rfl,rfl,rfl⟩
    | exact⟨_,[5,6,7,11,10],rfl,rfl,rfl,rfl⟩
  refine u_op 1 rfl rfl (EOp_light rfl (by decide) (L_load rfl (xb3 ty_91)) ?_)
  refine u_any 0 [2] ⟨?_,?_,trivial⟩
  ·refine u_op 0 rfl rfl (EOp_light rfl (by decide) (L_load rfl (xb3 ty_49)) ?_)
   refine u_any 2 [] ⟨?_,trivial⟩
   refine u_call 2 rfl rfl rfl rfl rfl ca_140 (c_impl_copyPending p hb.2) ?_
   rintro r S ⟨rfl,rfl⟩
   refine u_any 3 [] ⟨?_,trivial⟩
   refine u_op 3 rfl rfl (EOp_store rfl rfl rfl (xb1 ty_49) ?_)
   refine u_any 4 [] ⟨?_,trivial⟩
   refine u_op 4 rfl rfl (EOp_store rfl rfl rfl (xb1 ty_91) ?_)
   refine up_ 5 rfl (L_assign rfl) ?_
   refine u_done ?_
   refine G_ret ?_
   rw [hcc.1,hcc.2.1,hcc.2.2]
   first
    | exact⟨_,[5,6,7,10,11],rfl,rfl,rfl,rfl⟩
    | exact⟨_,[5,6,7,11,10],rfl,rfl,rfl,rfl⟩
  refine u_call 2 rfl rfl rfl rfl rfl ca_140 (c_impl_copyPending p hb.2) ?_
  rintro r S ⟨rfl,rfl⟩
  refine u_any 0 [] ⟨?_,trivial⟩
  refine u_op 0 rfl rfl (EOp_light rfl (by decide) (L_load rfl (xb0 ty_49)) ?_)
  refine u_any 3 [] ⟨?_,trivial⟩
  refine u_op 3 rfl rfl (EOp_store rfl rfl rfl (xb1 ty_49) ?_)
  refine u_any 4 [] ⟨?_,trivial⟩
  refine u_op 4 rfl rfl (EOp_store rfl rfl rfl (xb1 ty_91) ?_)
  refine up_ 5 rfl (L_assign rfl) ?_
  refine u_done ?_
  refine G_ret ?_
  rw [hcc.1,hcc.2.1,hcc.2.2]
  first
   | exact⟨_,[5,6,7,10,11],rfl,rfl,rfl,rfl⟩
   | exact⟨_,[5,6,7,11,10],rfl,rfl,rfl,rfl⟩
 have hk : mgK c p r = true := by
  simp only [mgK]
  simp_all
 obtain⟨hp0,hr0⟩:=mgK_parts hk
 have hp:=pnd_ok hp0
 have hcl:=crk_lens ((crk_iff c).2 hp.crk)
 have hil:=hp.il
 have hdl:=hp.dl
 refine G_skip ?_
 refine G_seq ?_
 refine G_seq ?_
 refine G_region' (L:=[0,1,2,3]) rfl ?_
 refine p_ rfl (l_field rfl fo_91_1) ?_
 refine l_ rfl (L_load rfl (xb0 ty_22)) ?_
 refine p_ rfl (l_len rfl sl_22) ?_
 refine xmv ?_
 refine EOps_nil ?_
 refine G_block ?_
 refine G_ghostB 9 1 3 1 rfl rfl (by decide) ?_
 refine g_forD_A104_1 (α:=Nat × Crk × List Int × Int) [0,1,2,3,4,5,6,7,8,9,10,33,38,39] (fun (k,X,L,mv)=>[(40,.c (.sc (.int .i64 ((k:Int))))),(11,.c (.sc (.int .i64 (mv)))),(13,.any),(14,.any),(15,.any),(16,.any)]) (fun (k,X,L,mv)=>[.box (crkC c),.box (pndC p),.box [.sc (.int .i64 r.1),.sc (.int .i64 r.2)],.box [.sc (.slice none 0 0),.sc (.slice none 0 0),.sc (.slice none 0 0)],.box [.sc (.slice none 0 0),.sc (.slice none 0 0)],.row 3 1 (ints X.vals),.row 3 1 (ints X.rows),.row 151 2 (pairs X.piv),.box (crkO 5 X),.box [.sc (.slice none 0 0),.sl 10 0 L.length L.length],.row 3 1 (ints L)]) (fun (k,X,L,mv)=>mD c p r k=(X,L,mv)∧k≤p.del.length) (fun (k,X,L,mv)=>p.del.length - k) ((0,c,[],0)) ?_ (rfl) ⟨.inr rfl,.inr rfl,.inl rfl,.inl rfl,.inl rfl,.inl rfl,trivial⟩ ?_
 ·exact⟨rfl,Nat.zero_le _⟩
 rintro⟨k,X,L,mv⟩ ⟨hgo,hkl⟩
 dsimp only at *
 have I:=mD_ok hp r k hkl
 rw [hgo] at I
 have hXok:=(crk_iff X).2 I.ok
 have hXl:=crk_lens hXok
 have hLl:=I.ll
 have hnn:=I.nn
 dsimp only at hLl hnn
 have hmb:((c.piv.length:Int)+1)*k≤2002*20:=Int.mul_le_mul (by omega) (by omega) (by omega) (by omega)
 refine G_seq ?_
 refine G_region' (L:=[0]) rfl ?_
 refine p_ rfl (L_bin rfl rfl rfl rfl) ?_
 refine EOps_nil ?_
 refine G_seq ?_
 refine G_cond rfl (fun hc41=>?_) (fun hc41=>?_)
 ·have hc41' : k < (p.del).length := by simpa [ints_len, bools_len, pairs_len, quads_len, quints_len] using hc41
  obtain⟨w,hw⟩:∃ x,(p.del)[k]? = some x:=⟨_,List.getElem?_eq_getElem hc41'⟩
  obtain⟨hwr,hwv⟩:=mDI_row hp I hw
  obtain⟨i,hi,hil2,hri,hvi,_⟩:=row_place hp.crk.rl (hp.dr w (List.mem_of_getElem? hw))
  refine G_skip ?_
  refine G_seq ?_
  refine G_block ?_
  refine G_seq ?_
  refine G_region' (L:=[0,1,2]) rfl ?_
  refine p_ rfl (L_index rfl rfl (xii sl_22 ty_3)) ?_
  refine l_ rfl (L_load rfl (xb0 ty_3)) ?_
  refine xas ?_
  refine EOps_nil ?_
  refine G_seq ?_
  refine G_seq ?_
  refine g_tidy_A104_0 [0,1,2,3,4,5,6,7,8,9,10,11,13,14,15,33,38,39,40,41,53] ?_
  refine G_drawT mixed ?_
  refine tl_ 0 rfl (L_load rfl (xb0 ty_53)) ?_
  refine tj_ 1 rfl (l_field rfl fo_49_0) ?_
  refine tl_ 2 rfl (L_load rfl (xb0 ty_22)) ?_
  refine tl_ 3 rfl (L_load rfl (xb0 ty_49)) ?_
  refine tj_ 4 rfl (L_move rfl) ?_
  refine t_call 5 rfl rfl rfl rfl rfl ca_147 (c_impl_FindRow c w) ?_
  rintro r S ⟨rfl,rfl⟩
  rw [hi]
  refine tj_ 6 rfl (L_index rfl rfl (xii sl_22 ty_3)) ?_
  refine tl_ 7 rfl (L_load rfl (xb0 ty_3)) ?_
  refine t_call 8 rfl rfl rfl rfl rfl ca_146 (c_impl_InRange r (valAt c w)) ?_
  rintro r S ⟨rfl,rfl⟩
  refine tj_ 9 rfl (L_not rfl rfl) ?_
  refine T_done (by kernel_rfl) ?_
  refine G_cond rfl (fun hc53=>?_) (fun hc53=>?_)
  ·have hin : ¬ inR r (valAt c w) = true := by simpa using hc53
   have hst:=mD_f hw hgo hin
   refine G_seq ?_
   refine G_region' (L:=[0,1,2,3,4,5,6]) rfl ?_
   refine p_ rfl (l_field rfl fo_91_1) ?_
   refine l_ rfl (L_load rfl (xb0 ty_22)) ?_
   refine xmv ?_
   refine EOps_go rfl rfl (Heavy.op (H_bslice_ro rfl rfl (by decide) sl_22 ty_3 za_3 ⟨rfl,by decide⟩ (by decide) rfl rfl rfl rfl ?_))
   refine EOps_go rfl rfl (EOp_append (news:=ints [w]) rfl rfl (by decide) sl_22 ty_3 by_3 za_3 ⟨rfl,by decide⟩ rfl (by first|rfl|assumption) xb6 xb7 xb8 xb9 ?_)
   refine p_ rfl (l_field rfl fo_91_1) ?_
   refine EOps_go rfl rfl (EOp_store rfl rfl rfl (xb1 ty_22) ?_)
   refine EOps_nil ?_
   refine G_exit ?_
   refine G_region' (L:=[0,1]) rfl ?_
   refine p_ rfl xb2 ?_
   refine xmv ?_
   refine EOps_nil ?_
   refine⟨[0,1,2,3,4,5,6,7,8,9,10],rfl,(k+1,X,L++[w],mv),?_,?_,(by first|rfl|(dsimp only;rw [← ints_lenApp L [w],← ints_app L [w]];rfl)),⟨.inr rfl,.inr rfl,.inl rfl,.inl rfl,.inl rfl,.inl rfl,trivial⟩,⟨.inr rfl,.inr rfl,.inr rfl,.inr rfl,.inr rfl,.inr rfl,.inr rfl,.inr rfl,.inr rfl,.inr rfl,.inr rfl,.inr rfl,.inr rfl,.inr rfl,trivial⟩⟩
   ·dsimp only;omega
   exact⟨hst,by dsimp only;omega⟩
  have hin : inR r (valAt c w) = true := by simpa using hc53
  have hst:=mD_t hw hgo hin
  have hbb:=dRowN_bd X w
  refine G_skip ?_
  refine G_seq ?_
  refine g_tidy_A104_0 [0,1,2,3,4,5,6,7,8,9,10,11,13,14,15,33,38,39,40,41,53] ?_
  refine G_region' (L:=[0,1,2,3,4,5,6,7,8,9,10]) rfl ?_
  refine l_ rfl (L_load rfl (xb0 ty_49)) ?_
  refine xmv ?_
  refine x_call rfl rfl rfl rfl rfl ca_148 (c_impl_RippleDelete X w hXok hwr) ?_
  rintro r S ⟨rfl,rfl⟩
  refine xmv ?_
  refine p_ rfl (L_extract rfl rfl) ?_
  refine p_ rfl (L_extract rfl rfl) ?_
  refine p_ rfl (L_extract rfl rfl) ?_
  refine x_alloc rfl rfl rfl rfl za_49 ?_
  refine EOps_go rfl rfl (EOp_store rfl rfl rfl (xb1 ty_49) ?_)
  refine xas ?_
  refine xas ?_
  refine EOps_nil ?_
  refine G_region' (L:=[0,1,2,3,4,5]) rfl ?_
  refine l_ rfl (L_load rfl (xb0 ty_49)) ?_
  refine xmv ?_
  refine xmv ?_
  refine p_ rfl xb2 ?_
  refine EOps_go rfl rfl (EOp_store rfl rfl rfl (xb1 ty_49) ?_)
  refine xas ?_
  refine EOps_nil ?_
  refine G_region' (L:=[0,1]) rfl ?_
  refine p_ rfl xb2 ?_
  refine xmv ?_
  refine EOps_nil ?_
  refine⟨[0,1,2,3,4,11,12,13,8,9,10],rfl,(k+1,dRow X w,L,mv+dRowN X w),?_,?_,(by first|rfl|(dsimp only;rw [← ints_lenApp L [w],← ints_app L [w]];rfl)),⟨.inr rfl,.inr rfl,.inl rfl,.inl rfl,.inl rfl,.inl rfl,trivial⟩,⟨.inr rfl,.inr rfl,.inr rfl,.inr rfl,.inr rfl,.inr rfl,.inr rfl,.inr rfl,.inr rfl,.inr rfl,.inr rfl,.inr rfl,.inr rfl,.inr rfl,trivial⟩⟩
  ·dsimp only;omega
  exact⟨hst,by dsimp only;omega⟩
 have hk0 : k = p.del.length := by simp [ints_len] at hc41; omega
 subst hk0
 refine G_exit ?_
 refine G_seq ?_
 refine G_seq ?_
 refine G_region' (L:=[0,1,2,3]) rfl ?_
 refine p_ rfl (l_field rfl fo_91_0) ?_
 refine l_ rfl (L_load rfl (xb0 ty_89)) ?_
 refine p_ rfl (l_len rfl sl_89) ?_
 refine xmv ?_
 refine EOps_nil ?_
 refine G_block ?_
 refine G_ghostB 9 0 104 2 rfl rfl (by decide) ?_
 refine g_forD_A104_1 (α:=Nat × Crk × List (Int × Int) × Int) [0,1,2,3,4,5,6,7,8,9,10,13,14,15,33,38,39,40,41,53,73,74] (fun (j,Y,Q,nv)=>[(75,.c (.sc (.int .i64 ((j:Int))))),(11,.c (.sc (.int .i64 (nv)))),(18,.any),(19,.any),(20,.any),(21,.any)]) (fun (j,Y,Q,nv)=>[.box (crkC c),.box (pndC p),.box [.sc (.int .i64 r.1),.sc (.int .i64 r.2)],.box [.sc (.slice none 0 0),.sc (.slice none 0 0),.sc (.slice none 0 0)],.box [.sc (.slice none 0 0),.sc (.slice none 0 0)],.row 3 1 (ints Y.vals),.row 3 1 (ints Y.rows),.row 151 2 (pairs Y.piv),.box (crkO 5 Y),.box [.sl 11 0 Q.length Q.length,.sl 10 0 L.length L.length],.row 3 1 (ints L),.row 104 2 (pairs Q)]) (fun (j,Y,Q,nv)=>mI c p r j=(Y,Q,nv)∧j≤p.ins.length) (fun (j,Y,Q,nv)=>p.ins.length - j) ((0,X,[],mv)) ?_ (rfl) ⟨.inr rfl,.inr rfl,.inl rfl,.inl rfl,.inl rfl,.inl rfl,trivial⟩ ?_
 ·exact⟨by rw [mI,hgo],Nat.zero_le _⟩
 rintro⟨j,Y,Q,nv⟩ ⟨hgo2,hjl⟩
 dsimp only at *
 have J:=mI_ok hp r j hjl
 rw [hgo2] at J
 have hYok:=(crk_iff Y).2 J.ok
 have hYl:=crk_lens hYok
 have hQl:=J.ll
 have hjn:=J.nn
 dsimp only at hQl hjn
 have hjb:((c.piv.length:Int)+1)*(p.del.length+j)≤2002*40:=Int.mul_le_mul (by omega) (by omega) (by omega) (by omega)
 refine G_seq ?_
 refine G_region' (L:=[0]) rfl ?_
 refine p_ rfl (L_bin rfl rfl rfl rfl) ?_
 refine EOps_nil ?_
 refine G_seq ?_
 refine G_cond rfl (fun hc76=>?_) (fun hc76=>?_)
 ·have hc76' : j < (p.ins).length := by simpa [ints_len, bools_len, pairs_len, quads_len, quints_len] using hc76
  obtain⟨x,hx⟩:∃ x,(p.ins)[j]? = some x:=⟨_,List.getElem?_eq_getElem hc76'⟩
  obtain⟨hxr,hx64⟩:=mII_row hp J hx
  have hit:=hp.it x (List.mem_of_getElem? hx)
  have hxi:isItem x=true:=by simp only [isItem,isIn,Bool.and_eq_true,decide_eq_true_eq];omega
  dsimp only at hxr hx64
  refine G_skip ?_
  refine G_seq ?_
  refine G_block ?_
  refine G_seq ?_
  refine G_region' (L:=[0,1,2,3]) rfl ?_
  refine p_ rfl (L_index rfl rfl (xii sl_89 ty_104)) ?_
  refine l_ rfl (L_load rfl (xb0 ty_104)) ?_
  refine x_alloc rfl rfl rfl rfl za_104 ?_
  refine EOps_go rfl rfl (EOp_store rfl rfl rfl (xb1 ty_104) ?_)
  refine EOps_nil ?_
  refine G_seq ?_
  refine G_seq ?_
  refine g_tidy_A104_0 [0,1,2,3,4,5,6,7,8,9,10,11,13,14,15,18,19,20,33,38,39,40,41,53,73,74,75,76,83] ?_
  refine G_region' (L:=[0,1,2,3,4]) rfl ?_
  refine l_ rfl (L_load rfl (xb0 ty_53)) ?_
  refine p_ rfl (l_field rfl fo_104_0) ?_
  refine l_ rfl (L_load rfl (xb0 ty_3)) ?_
  refine x_call rfl rfl rfl rfl rfl ca_146 (c_impl_InRange r x.1) ?_
  rintro r S ⟨rfl,rfl⟩
  refine p_ rfl (L_not rfl rfl) ?_
  refine EOps_nil ?_
  refine G_cond rfl (fun hc83=>?_) (fun hc83=>?_)
  ·have hin : ¬ inR r x.1 = true := by simpa using hc83
   have hst:=mI_f hx hgo2 hin
   refine G_seq ?_
   refine G_region' (L:=[0,1,2,3,4,5,6]) rfl ?_
   refine p_ rfl (l_field rfl fo_91_0) ?_
   refine l_ rfl (L_load rfl (xb0 ty_89)) ?_
   refine l_ rfl (L_load rfl (xb0 ty_104)) ?_
   refine EOps_go rfl rfl (Heavy.op (H_bslice_ro rfl rfl (by decide) sl_89 ty_104 za_104 ⟨rfl,by decide⟩ (by decide) rfl rfl rfl rfl ?_))
   refine EOps_go rfl rfl (EOp_append (news:=pairs [x]) rfl rfl (by decide) sl_89 ty_104 by_104 za_104 ⟨rfl,by decide⟩ rfl (by first|rfl|assumption) xb6 xb7 xb8 xb9 ?_)
   refine p_ rfl (l_field rfl fo_91_0) ?_
   refine EOps_go rfl rfl (EOp_store rfl rfl rfl (xb1 ty_89) ?_)
   refine EOps_nil ?_
   refine G_exit ?_
   refine G_region' (L:=[0,1]) rfl ?_
   refine p_ rfl xb2 ?_
   refine xmv ?_
   refine EOps_nil ?_
   refine⟨[0,1,2,3,4,5,6,7,8,9,10,11],rfl,(j+1,Y,Q++[x],nv),?_,?_,(by first|rfl|(dsimp only;rw [← pairs_lenApp Q [x],← pairs_app Q [x]];rfl)),⟨.inr rfl,.inr rfl,.inl rfl,.inl rfl,.inl rfl,.inl rfl,trivial⟩,⟨.inr rfl,.inr rfl,.inr rfl,.inr rfl,.inr rfl,.inr rfl,.inr rfl,.inr rfl,.inr rfl,.inr rfl,.inr rfl,.inr rfl,.inr rfl,.inr rfl,.inr rfl,.inr rfl,.inr rfl,.inr rfl,.inr rfl,.inr rfl,.inr rfl,.inr rfl,trivial⟩⟩
   ·dsimp only;omega
   exact⟨hst,by dsimp only;omega⟩
  have hin : inR r x.1 = true := by simpa using hc83
  have hst:=mI_t hx hgo2 hin
  rw [List.append_nil] at hst
  have hbb:=ripIn_bd Y x
  refine G_skip ?_
  refine G_seq ?_
  refine g_tidy_A104_0 [0,1,2,3,4,5,6,7,8,9,10,11,13,14,15,18,19,20,33,38,39,40,41,53,73,74,75,76,83] ?_
  refine G_region' (L:=[0,1,2,3,4,5,6,7,8,9,10]) rfl ?_
  refine l_ rfl (L_load rfl (xb0 ty_49)) ?_
  refine l_ rfl (L_load rfl (xb0 ty_104)) ?_
  refine x_call rfl rfl rfl rfl rfl ca_149 (c_impl_RippleInsert Y x hYok hxi hxr hx64) ?_
  rintro r S ⟨rfl,rfl⟩
  refine xmv ?_
  refine p_ rfl (L_extract rfl rfl) ?_
  refine p_ rfl (L_extract rfl rfl) ?_
  refine p_ rfl (L_extract rfl rfl) ?_
  refine x_alloc rfl rfl rfl rfl za_49 ?_
  refine EOps_go rfl rfl (EOp_store rfl rfl rfl (xb1 ty_49) ?_)
  refine xas ?_
  refine xas ?_
  refine EOps_nil ?_
  refine G_region' (L:=[0,1,2,3,4,5]) rfl ?_
  refine l_ rfl (L_load rfl (xb0 ty_49)) ?_
  refine xmv ?_
  refine xmv ?_
  refine p_ rfl xb2 ?_
  refine EOps_go rfl rfl (EOp_store rfl rfl rfl (xb1 ty_49) ?_)
  refine xas ?_
  refine EOps_nil ?_
  refine G_region' (L:=[0,1]) rfl ?_
  refine p_ rfl xb2 ?_
  refine xmv ?_
  refine EOps_nil ?_
  refine⟨[0,1,2,3,4,13,14,15,8,9,10,11],rfl,(j+1,ripI Y x,Q,nv+ripIn Y x),?_,?_,(by first|rfl|(dsimp only;rw [← pairs_lenApp Q [x],← pairs_app Q [x]];rfl)),⟨.inr rfl,.inr rfl,.inl rfl,.inl rfl,.inl rfl,.inl rfl,trivial⟩,⟨.inr rfl,.inr rfl,.inr rfl,.inr rfl,.inr rfl,.inr rfl,.inr rfl,.inr rfl,.inr rfl,.inr rfl,.inr rfl,.inr rfl,.inr rfl,.inr rfl,.inr rfl,.inr rfl,.inr rfl,.inr rfl,.inr rfl,.inr rfl,.inr rfl,.inr rfl,trivial⟩⟩
  ·dsimp only;omega
  exact⟨hst,by dsimp only;omega⟩
 have hj0 : j = p.ins.length := by simp [pairs_len] at hc76; omega
 subst hj0
 have hcc : mgC c p r = Y ∧ mgP c p r = ⟨Q, L⟩ ∧ mgN c p r = nv := by
  simp [mgC,mgP,mgN,hk,hgo2,hgo]
 refine G_exit ?_
 refine G_seq ?_
 refine G_drawD [8,9] mixed ?_
 refine d_pure' 2 rfl rfl rfl (L_move rfl) ?_
 refine d_load' 0 rfl rfl rfl rfl rfl (d_bp ty_49) ?_
 refine d_load' 1 rfl rfl rfl rfl rfl (d_bp ty_91) ?_
 refine d_any 3 [] ⟨?_,trivial⟩
 refine d_store' 3 rfl rfl rfl rfl rfl rfl (s_bp ty_49) ?_
 refine d_any 4 [] ⟨?_,trivial⟩
 refine d_store' 4 rfl rfl rfl rfl rfl rfl (s_bp ty_91) ?_
 refine d_pure' 5 rfl rfl rfl (L_assign rfl) ?_
 refine D_done (by kernel_rfl) ?_
 refine G_ret ?_
 rw [hcc.1,hcc.2.1,hcc.2.2]
 first
  | exact⟨_,[5,6,7,10,11],rfl,rfl,rfl,rfl⟩
  | exact⟨_,[5,6,7,11,10],rfl,rfl,rfl,rfl⟩

end Go.Proofs.YtlodlnbhjghjoaaGreat.E
