/- Walks through functions, by program out of the session's annotations. -/
import Derived.Test.YtcepgfcolmdnoaaA176
import Derived.Test.YtcepgfcolmdnoaaA172
import Derived.Test.YtcepgfcolmdnoaaA09
namespace Go.Proofs.Ytcepgfcolmdnoaa.E
open Go Go.RowKit Go.Proofs
set_option linter.unusedVariables false
set_option linter.unusedSimpArgs false

theorem e_tidy_A177_0 {P:Program} {N:Nat} {s:Slots} {R:List Res} {Q:Exit→Slots→List Res→Prop} {c:Code} (keep:List Nat) {base:Slots} {R':List Res} (h:ECode P N c base R' Q) (hb:keepOf s keep=base:=by simp only [E.keepOf,E.get,E.ev,E.cv,E.fill',E.fill,E.slotsOf,Res.sh,AC.sh,AC.sh.shs,AV.sh,E.splice,List.map_cons,List.map_nil,List.cons_append,List.nil_append,List.append_nil,List.length_cons,List.length_nil,List.take_zero,List.drop_zero,List.take_succ_cons,List.drop_succ_cons,List.drop_nil,List.take_nil,List.set_cons_zero,List.set_cons_succ,Nat.zero_add,Nat.add_zero,Nat.reduceAdd,Nat.reduceSub,reduceIte,Nat.reduceEqDiff,E.back,E.backR,E.ix,Res.un,AC.un,AC.un.uns,AV.un,E.un,Option.map_some,Option.map_none,Option.getD_some,List.getElem?_cons_zero,List.getElem?_cons_succ,List.getElem?_nil,crkO,crkR];rfl) (hR:R=R':=by (try simp only [E.keepOf,E.get,E.ev,E.cv,E.fill',E.fill,E.slotsOf,Res.sh,AC.sh,AC.sh.shs,AV.sh,E.splice,List.map_cons,List.map_nil,List.cons_append,List.nil_append,List.append_nil,List.length_cons,List.length_nil,List.take_zero,List.drop_zero,List.take_succ_cons,List.drop_succ_cons,List.drop_nil,List.take_nil,List.set_cons_zero,List.set_cons_succ,Nat.zero_add,Nat.add_zero,Nat.reduceAdd,Nat.reduceSub,reduceIte,Nat.reduceEqDiff,E.back,E.backR,E.ix,Res.un,AC.un,AC.un.uns,AV.un,E.un,Option.map_some,Option.map_none,Option.getD_some,List.getElem?_cons_zero,List.getElem?_cons_succ,List.getElem?_nil,crkO,crkR]);rfl):ECode P N c s R Q:=E_tidy keep hb hR h

set_option maxRecDepth 20000 in
set_option maxHeartbeats 8000000 in
theorem c_laws_FnExactJoinRange (a b : Crk) (x : Int × Int) : EFn Try.prog 9 [.agg (crkC a), .agg (crkC b), .agg [.sc (.int .i64 x.1), .sc (.int .i64 x.2)]] [] (fun r S => r = .c (.sc (.bool true)) ∧ S = []) := by
 refine E_fn Try.func9 rfl (Nat.le_of_ble_eq_true rfl) ?_
 refine E_seq ?_
 refine E_region' (L:=[0,1,2,3]) rfl ?_
 refine x_box rfl rfl rfl rfl rfl ?_
 refine x_box rfl rfl rfl rfl rfl ?_
 refine x_box rfl rfl rfl rfl rfl ?_
 refine xas ?_
 refine EOps_nil ?_
 refine E_seq ?_
 refine E_region' (L:=[0]) rfl ?_
 refine xas ?_
 refine EOps_nil ?_
 refine E_seq ?_
 refine e_tidy_A177_0 [0,1,2,3,4,5,6,7] ?_
 refine E_region' (L:=[0,1,2,3]) rfl ?_
 refine l_ rfl (L_load rfl (xb0 ty_90)) ?_
 refine xmv ?_
 refine x_call rfl rfl rfl rfl rfl ca_59 (c_laws_szCracker (a) (1048576) (by omega)) ?_
 rintro r S ⟨rfl,rfl⟩
 refine xas ?_
 refine EOps_nil ?_
 refine E_seq ?_
 refine E_seq ?_
 refine E_region' (L:=[0,1]) rfl ?_
 refine xmv ?_
 refine p_ rfl (L_bin rfl rfl rfl rfl) ?_
 refine EOps_nil ?_
 refine E_cond rfl (fun hc29=>?_) (fun hc29=>?_)
 ·refine E_seq ?_
  refine E_region' (L:=[0]) rfl ?_
  refine xas ?_
  refine EOps_nil ?_
  refine E_ret ?_
  refine⟨_,[],rfl,rfl,?_,rfl⟩
  simp [AV.ren,ren_sc,ren_ro,AC.ren,AC.ren.rens,ix,rv1,E.get,E.ev,E.cv,E.fill',E.fill,E.slotsOf, *]
 have h0 : ¬ szR (1048576) (a.vals.length + a.rows.length + a.piv.length) < 0 := by simpa using hc29
 have hl0:=szR_le h0
 have hr0:=szR_rng (l:=1048576) (n:=a.vals.length+a.rows.length+a.piv.length) (by omega)
 have ha0:a.vals.length≤1048576∧a.rows.length≤1048576∧a.piv.length≤1048576:=by omega
 refine E_skip ?_
 refine E_seq ?_
 refine e_tidy_A177_0 [0,1,2,3,4,5,6,7,29] ?_
 refine E_region' (L:=[0,1,2,3]) rfl ?_
 refine l_ rfl (L_load rfl (xb0 ty_90)) ?_
 refine xmv ?_
 refine x_call rfl rfl rfl rfl rfl ca_59 (c_laws_szCracker (b) (szR (1048576) (a.vals.length+a.rows.length+a.piv.length)) hr0) ?_
 rintro r S ⟨rfl,rfl⟩
 refine xas ?_
 refine EOps_nil ?_
 refine E_seq ?_
 refine E_seq ?_
 refine E_region' (L:=[0,1]) rfl ?_
 refine xmv ?_
 refine p_ rfl (L_bin rfl rfl rfl rfl) ?_
 refine EOps_nil ?_
 refine E_cond rfl (fun hc34=>?_) (fun hc34=>?_)
 ·refine E_seq ?_
  refine E_region' (L:=[0]) rfl ?_
  refine xas ?_
  refine EOps_nil ?_
  refine E_ret ?_
  refine⟨_,[],rfl,rfl,?_,rfl⟩
  simp [AV.ren,ren_sc,ren_ro,AC.ren,AC.ren.rens,ix,rv1,E.get,E.ev,E.cv,E.fill',E.fill,E.slotsOf, *]
 have h1 : ¬ szR (szR (1048576) (a.vals.length + a.rows.length + a.piv.length)) (b.vals.length + b.rows.length + b.piv.length) < 0 := by simpa using hc34
 have hl1:=szR_le h1
 have hr1:=szR_rng (l:=szR (1048576) (a.vals.length+a.rows.length+a.piv.length)) (n:=b.vals.length+b.rows.length+b.piv.length) hr0
 have ha1:b.vals.length≤1048576∧b.rows.length≤1048576∧b.piv.length≤1048576:=by omega
 have hw:=c_spec_JoinRange a b x ⟨ha0,ha1⟩
 have hg:=c_impl_JoinRange a b x ⟨ha0,ha1⟩
 have hle012:=jn_le (a:=a) (b:=b) (r:=x) ha0 ha1
 have hle0:=hle012.1
 have hle1:=hle012.2.1
 have hle2:=hle012.2.2
 generalize jnA a b x=q at hw hg hle0
 generalize jnB a b x=t at hw hg hle1
 generalize jnL a b x=l at hw hg hle2
 generalize jnK a b x=ok at hw hg
 refine E_skip ?_
 refine E_seq ?_
 refine e_tidy_A177_0 [0,1,2,3,4,5,6,7,29,34] ?_
 refine E_drawT mixed ?_
 refine tl_ 0 rfl (L_load rfl (xb0 ty_90)) ?_
 refine tl_ 2 rfl (L_load rfl (xb0 ty_90)) ?_
 refine tl_ 4 rfl (L_load rfl (xb0 ty_101)) ?_
 refine t_main 4 [(⟨none,12,8,0⟩,_),(⟨none,13,9,0⟩,_)] [(1,false),(3,false),(5,false),(6,false),(7,true),(8,true),(9,true),(10,true),(11,true)] [37,39,41,42,35,43,44,45,46] [(8,.any),(9,.any),(37,.any),(39,.any),(41,.any),(42,.any),(35,.any),(43,.any),(44,.any),(45,.any),(46,.any)] [1,3,5,6,7,8,9,10,11,12,13] ⟨.one rfl rfl rfl (by decide) (F_alloc rfl za_27),.one rfl rfl rfl (by decide) (F_alloc rfl za_27),trivial⟩ ?_
 refine m_call rfl rfl rfl rfl rfl ca_61 (c_laws_toCracker a ha0) ?_
 rintro r S ⟨rfl,rfl⟩
 refine m_call rfl rfl rfl rfl rfl ca_61 (c_laws_toCracker b ha1) ?_
 rintro r S ⟨rfl,rfl⟩
 refine m_call rfl rfl rfl rfl rfl ca_69 (c_laws_toRange x.1 x.2) ?_
 rintro r S ⟨rfl,rfl⟩
 refine m_call rfl rfl rfl rfl rfl ca_68 (hw) ?_
 rintro r S ⟨rfl,rfl⟩
 refine m_pure rfl rfl rfl (L_move rfl) ?_
 refine m_pure rfl rfl rfl (L_extract rfl rfl) ?_
 refine m_pure rfl rfl rfl (L_extract rfl rfl) ?_
 refine m_pure rfl rfl rfl (L_extract rfl rfl) ?_
 refine m_pure rfl rfl rfl (L_extract rfl rfl) ?_
 refine m_done ?_
 refine fk_cons ?_
 rintro r S ⟨rfl,rfl⟩
 refine fk_cons ?_
 rintro r S ⟨rfl,rfl⟩
 refine fk_nil ?_
 refine t_turn 14 rfl rfl (EOp_store rfl rfl rfl (xb1 ty_27) ?_)
 refine t_turn 15 rfl rfl (EOp_store rfl rfl rfl (xb1 ty_27) ?_)
 refine tj_ 16 rfl (L_assign rfl) ?_
 refine tj_ 17 rfl (L_assign rfl) ?_
 refine T_done (by kernel_rfl) ?_
 refine E_seq ?_
 refine e_tidy_A177_0 [0,1,2,3,4,5,6,7,8,9,10,11,29,34] ?_
 refine E_region' (L:=[0,1,2,3]) rfl ?_
 refine l_ rfl (L_load rfl (xb0 ty_90)) ?_
 refine x_call rfl rfl rfl rfl rfl ca_61 (c_laws_toCracker a ha0) ?_
 rintro r S ⟨rfl,rfl⟩
 refine x_alloc rfl rfl rfl rfl za_27 ?_
 refine EOps_go rfl rfl (EOp_store rfl rfl rfl (xb1 ty_27) ?_)
 refine EOps_nil ?_
 refine E_seq ?_
 refine e_tidy_A177_0 [0,1,2,3,4,5,6,7,8,9,10,11,12,29,34] ?_
 refine E_region' (L:=[0,1,2,3]) rfl ?_
 refine l_ rfl (L_load rfl (xb0 ty_90)) ?_
 refine x_call rfl rfl rfl rfl rfl ca_61 (c_laws_toCracker b ha1) ?_
 rintro r S ⟨rfl,rfl⟩
 refine x_alloc rfl rfl rfl rfl za_27 ?_
 refine EOps_go rfl rfl (EOp_store rfl rfl rfl (xb1 ty_27) ?_)
 refine EOps_nil ?_
 refine E_seq ?_
 refine e_tidy_A177_0 [0,1,2,3,4,5,6,7,8,9,10,11,12,13,29,34] ?_
 refine E_drawT mixed ?_
 refine tl_ 0 rfl (L_load rfl (xb0 ty_27)) ?_
 refine tl_ 1 rfl (L_load rfl (xb0 ty_27)) ?_
 refine tl_ 2 rfl (L_load rfl (xb0 ty_101)) ?_
 refine t_main 4 [(⟨none,10,14,0⟩,_),(⟨none,11,15,0⟩,_)] [(3,false),(4,false),(5,true),(6,true),(7,true),(8,true),(9,true)] [55,56,51,57,58,59,60] [(14,.any),(15,.any),(55,.any),(56,.any),(51,.any),(57,.any),(58,.any),(59,.any),(60,.any)] [3,4,5,6,7,8,9,10,11] ⟨.one rfl rfl rfl (by decide) (F_alloc rfl za_27),.one rfl rfl rfl (by decide) (F_alloc rfl za_27),trivial⟩ ?_
 refine m_call rfl rfl rfl rfl rfl ca_69 (c_laws_toRange x.1 x.2) ?_
 rintro r S ⟨rfl,rfl⟩
 refine m_call rfl rfl rfl rfl rfl ca_70 (hg) ?_
 rintro r S ⟨rfl,rfl⟩
 refine m_pure rfl rfl rfl (L_move rfl) ?_
 refine m_pure rfl rfl rfl (L_extract rfl rfl) ?_
 refine m_pure rfl rfl rfl (L_extract rfl rfl) ?_
 refine m_pure rfl rfl rfl (L_extract rfl rfl) ?_
 refine m_pure rfl rfl rfl (L_extract rfl rfl) ?_
 refine m_done ?_
 refine fk_cons ?_
 rintro r S ⟨rfl,rfl⟩
 refine fk_cons ?_
 rintro r S ⟨rfl,rfl⟩
 refine fk_nil ?_
 refine t_turn 12 rfl rfl (EOp_store rfl rfl rfl (xb1 ty_27) ?_)
 refine t_turn 13 rfl rfl (EOp_store rfl rfl rfl (xb1 ty_27) ?_)
 refine tj_ 14 rfl (L_assign rfl) ?_
 refine tj_ 15 rfl (L_assign rfl) ?_
 refine T_done (by kernel_rfl) ?_
 refine E_seq ?_
 refine E_seq ?_
 refine e_tidy_A177_0 [0,1,2,3,4,5,6,7,8,9,10,11,12,13,14,15,16,17,29,34] ?_
 refine E_region' (L:=[0,1,2,3,4,5,6,7,8,9,10,11,12,13,14,15,16,17,18,19,20]) rfl ?_
 refine l_ rfl (L_load rfl (xb0 ty_27)) ?_
 refine l_ rfl (L_load rfl (xb0 ty_27)) ?_
 refine x_call rfl rfl rfl rfl rfl ca_64 (c_laws_eqCracker q q) ?_
 rintro r S ⟨rfl,rfl⟩
 refine p_ rfl (L_not rfl rfl) ?_
 refine xmv ?_
 refine EOps_split 65 (b:=_) rfl (fun hg65=>?_) (fun hg65=>?_)
 ·first|(simp at hg65;done)|(simp at hg65;omega)
 refine l_ rfl (L_load rfl (xb6 ty_27)) ?_
 refine l_ rfl (L_load rfl (xb0 ty_27)) ?_
 refine x_call rfl rfl rfl rfl rfl ca_64 (c_laws_eqCracker t t) ?_
 rintro r S ⟨rfl,rfl⟩
 refine p_ rfl (L_not rfl rfl) ?_
 refine p_ rfl (L_pick rfl rfl) ?_
 refine xmv ?_
 refine EOps_split 71 (b:=_) rfl (fun hg71=>?_) (fun hg71=>?_)
 ·first|(simp at hg71;done)|(simp at hg71;omega)
 refine xmv ?_
 refine xmv ?_
 refine x_call rfl rfl rfl rfl rfl ca_71 (c_laws_eqPairS l l) ?_
 rintro r S ⟨rfl,rfl⟩
 refine p_ rfl (L_not rfl rfl) ?_
 refine p_ rfl (L_pick rfl rfl) ?_
 refine xmv ?_
 refine EOps_split 77 (b:=_) rfl (fun hg77=>?_) (fun hg77=>?_)
 ·first|(simp at hg77;done)|(simp at hg77;omega)
 refine xmv ?_
 refine xmv ?_
 refine p_ rfl (L_binB rfl bo_4 rfl rfl rfl) ?_
 refine p_ rfl (L_pick rfl rfl) ?_
 refine EOps_nil ?_
 refine E_cond rfl (fun hc81=>?_) (fun hc81=>?_)
 ·first|(simp at hc81;done)|(simp at hc81;omega)
 refine E_skip ?_
 refine E_seq ?_
 refine E_seq ?_
 refine e_tidy_A177_0 [0,1,2,3,4,5,6,7,8,9,10,11,12,13,14,15,16,17,29,34,81] ?_
 refine E_drawT mixed ?_
 refine tl_ 0 rfl (L_load rfl (xb0 ty_27)) ?_
 refine tl_ 1 rfl (L_load rfl (xb0 ty_90)) ?_
 refine t_call 2 rfl rfl rfl rfl rfl ca_61 (c_laws_toCracker a ha0) ?_
 rintro r S ⟨rfl,rfl⟩
 refine t_call 3 rfl rfl rfl rfl rfl ca_64 (c_laws_eqCracker a a) ?_
 rintro r S ⟨rfl,rfl⟩
 refine tj_ 4 rfl (L_not rfl rfl) ?_
 refine T_done (by kernel_rfl) ?_
 refine E_cond rfl (fun hc86=>?_) (fun hc86=>?_)
 ·first|(simp at hc86;done)|(simp at hc86;omega)
 refine E_skip ?_
 refine E_seq ?_
 refine E_seq ?_
 refine e_tidy_A177_0 [0,1,2,3,4,5,6,7,8,9,10,11,12,13,14,15,16,17,29,34,81,86] ?_
 refine E_drawT mixed ?_
 refine tl_ 0 rfl (L_load rfl (xb0 ty_27)) ?_
 refine tl_ 1 rfl (L_load rfl (xb0 ty_90)) ?_
 refine t_call 2 rfl rfl rfl rfl rfl ca_61 (c_laws_toCracker b ha1) ?_
 rintro r S ⟨rfl,rfl⟩
 refine t_call 3 rfl rfl rfl rfl rfl ca_64 (c_laws_eqCracker b b) ?_
 rintro r S ⟨rfl,rfl⟩
 refine tj_ 4 rfl (L_not rfl rfl) ?_
 refine T_done (by kernel_rfl) ?_
 refine E_cond rfl (fun hc91=>?_) (fun hc91=>?_)
 ·first|(simp at hc91;done)|(simp at hc91;omega)
 refine E_skip ?_
 refine E_seq ?_
 refine E_region' (L:=[0]) rfl ?_
 refine xas ?_
 refine EOps_nil ?_
 refine E_seq ?_
 refine e_tidy_A177_0 [0,1,2,3,4,5,6,7,8,9,10,11,12,13,14,15,16,17,18,29,34,81,86,91] ?_
 refine E_region' (L:=[0,1,2,3]) rfl ?_
 refine l_ rfl (L_load rfl (xb0 ty_27)) ?_
 refine xmv ?_
 refine x_frame [18,19,20] rfl rfl rfl rfl rfl ca_66 rfl (c_laws_markCracker _ _ _ (1) a _ _ _ rfl rfl rfl ha0 (by omega)) ?_
 rintro r S ⟨r0,S0,⟨rfl,rfl⟩,rfl,rfl⟩
 refine xas ?_
 refine EOps_nil ?_
 refine E_seq ?_
 refine e_tidy_A177_0 [0,1,2,3,4,5,6,7,8,9,10,11,12,13,14,15,16,17,18,29,34,81,86,91] ?_
 refine E_region' (L:=[0,1,2,3]) rfl ?_
 refine l_ rfl (L_load rfl (xb0 ty_27)) ?_
 refine xmv ?_
 refine x_frame [22,23,24] rfl rfl rfl rfl rfl ca_66 rfl (c_laws_markCracker _ _ _ (1+a.vals.length+a.rows.length+2*a.piv.length) b _ _ _ rfl rfl rfl ha1 (by omega)) ?_
 rintro r S ⟨r0,S0,⟨rfl,rfl⟩,rfl,rfl⟩
 refine xas ?_
 refine EOps_nil ?_
 refine E_seq ?_
 refine E_seq ?_
 refine e_tidy_A177_0 [0,1,2,3,4,5,6,7,8,9,10,11,12,13,14,15,16,17,18,29,34,81,86,91] ?_
 refine E_region' (L:=[0,1,2,3,4,5,6,7,8,9,10,11,12,13,14,15,16,17,18,19,20,21,22,23,24]) rfl ?_
 refine xmv ?_
 refine p_ rfl (L_bin rfl rfl rfl rfl) ?_
 refine xmv ?_
 refine EOps_split 100 (b:=_) rfl (fun hg100=>?_) (fun hg100=>?_)
 ·first|(simp at hg100;done)|(simp at hg100;omega)
 refine l_ rfl (L_load rfl (xb6 ty_27)) ?_
 refine l_ rfl (L_load rfl (xb0 ty_27)) ?_
 refine x_call rfl rfl rfl rfl rfl ca_64 (c_laws_eqCracker q q) ?_
 rintro r S ⟨rfl,rfl⟩
 refine p_ rfl (L_not rfl rfl) ?_
 refine p_ rfl (L_pick rfl rfl) ?_
 refine xmv ?_
 refine EOps_split 106 (b:=_) rfl (fun hg106=>?_) (fun hg106=>?_)
 ·first|(simp at hg106;done)|(simp at hg106;omega)
 refine l_ rfl (L_load rfl (xb6 ty_27)) ?_
 refine l_ rfl (L_load rfl (xb0 ty_27)) ?_
 refine x_call rfl rfl rfl rfl rfl ca_64 (c_laws_eqCracker t t) ?_
 rintro r S ⟨rfl,rfl⟩
 refine p_ rfl (L_not rfl rfl) ?_
 refine p_ rfl (L_pick rfl rfl) ?_
 refine xmv ?_
 refine EOps_split 112 (b:=_) rfl (fun hg112=>?_) (fun hg112=>?_)
 ·first|(simp at hg112;done)|(simp at hg112;omega)
 refine xmv ?_
 refine xmv ?_
 refine x_call rfl rfl rfl rfl rfl ca_71 (c_laws_eqPairS l l) ?_
 rintro r S ⟨rfl,rfl⟩
 refine p_ rfl (L_not rfl rfl) ?_
 refine p_ rfl (L_pick rfl rfl) ?_
 refine xmv ?_
 refine EOps_split 118 (b:=_) rfl (fun hg118=>?_) (fun hg118=>?_)
 ·first|(simp at hg118;done)|(simp at hg118;omega)
 refine xmv ?_
 refine xmv ?_
 refine p_ rfl (L_binB rfl bo_4 rfl rfl rfl) ?_
 refine p_ rfl (L_pick rfl rfl) ?_
 refine EOps_nil ?_
 refine E_cond rfl (fun hc122=>?_) (fun hc122=>?_)
 ·first|(simp at hc122;done)|(simp at hc122;omega)
 refine E_skip ?_
 refine E_seq ?_
 refine E_region' (L:=[0]) rfl ?_
 refine xas ?_
 refine EOps_nil ?_
 refine E_seq ?_
 refine e_tidy_A177_0 [0,1,2,3,4,5,6,7,8,9,10,11,12,13,14,15,16,17,18,19,29,34,81,86,91,122] ?_
 refine E_region' (L:=[0,1,2,3]) rfl ?_
 refine l_ rfl (L_load rfl (xb0 ty_27)) ?_
 refine xmv ?_
 refine x_frame [26,27,28] rfl rfl rfl rfl rfl ca_66 rfl (c_laws_markCracker _ _ _ (1) q _ _ _ rfl rfl rfl hle0 (by omega)) ?_
 rintro r S ⟨r0,S0,⟨rfl,rfl⟩,rfl,rfl⟩
 refine xas ?_
 refine EOps_nil ?_
 refine E_seq ?_
 refine e_tidy_A177_0 [0,1,2,3,4,5,6,7,8,9,10,11,12,13,14,15,16,17,18,19,29,34,81,86,91,122] ?_
 refine E_region' (L:=[0,1,2,3]) rfl ?_
 refine l_ rfl (L_load rfl (xb0 ty_27)) ?_
 refine xmv ?_
 refine x_frame [29,30,31] rfl rfl rfl rfl rfl ca_66 rfl (c_laws_markCracker _ _ _ (1+q.vals.length+q.rows.length+2*q.piv.length) t _ _ _ rfl rfl rfl hle1 (by omega)) ?_
 rintro r S ⟨r0,S0,⟨rfl,rfl⟩,rfl,rfl⟩
 refine xas ?_
 refine EOps_nil ?_
 refine E_seq ?_
 refine e_tidy_A177_0 [0,1,2,3,4,5,6,7,8,9,10,11,12,13,14,15,16,17,18,19,29,34,81,86,91,122] ?_
 refine E_region' (L:=[0,1,2,3]) rfl ?_
 refine xmv ?_
 refine xmv ?_
 refine x_frame [32] rfl rfl rfl rfl rfl ca_72 rfl (c_laws_markPairS _ (l.length) (1+q.vals.length+q.rows.length+2*q.piv.length+t.vals.length+t.rows.length+2*t.piv.length) l rfl hle2 (by omega)) ?_
 rintro r S ⟨r0,S0,⟨rfl,rfl⟩,rfl,rfl⟩
 refine xas ?_
 refine EOps_nil ?_
 refine E_seq ?_
 refine E_region' (L:=[0]) rfl ?_
 refine xas ?_
 refine EOps_nil ?_
 refine E_seq ?_
 refine e_tidy_A177_0 [0,1,2,3,4,5,6,7,8,9,10,11,12,13,14,15,16,17,18,19,20,29,34,81,86,91,122] ?_
 refine E_region' (L:=[0,1,2,3]) rfl ?_
 refine l_ rfl (L_load rfl (xb0 ty_27)) ?_
 refine xmv ?_
 refine x_call rfl rfl rfl rfl rfl ca_67 (c_laws_heldCracker (1) (q.vals.length) (q.rows.length) (q.piv.length) hle0 (by omega)) ?_ (ha:=by exact cons_eq (agg_eq (cons_eq (lendC_whole rfl (by simp [ints_len,seqF_len])) (cons_eq (lendC_whole rfl (by simp [ints_len,seqF_len])) (cons_eq (lendC_whole rfl (by simp [pairs_len,seqP_len])) rfl)))) (cons_eq rfl rfl))
 rintro r S ⟨rfl,rfl⟩
 refine xas ?_
 refine EOps_nil ?_
 refine E_seq ?_
 refine E_seq ?_
 refine E_region' (L:=[0,1]) rfl ?_
 refine xmv ?_
 refine p_ rfl (L_bin rfl rfl rfl rfl) ?_
 refine EOps_nil ?_
 refine E_cond rfl (fun hc136=>?_) (fun hc136=>?_)
 ·first|(simp at hc136;done)|(simp at hc136;omega)
 refine E_skip ?_
 refine E_seq ?_
 refine e_tidy_A177_0 [0,1,2,3,4,5,6,7,8,9,10,11,12,13,14,15,16,17,18,19,20,29,34,81,86,91,122,136] ?_
 refine E_region' (L:=[0,1,2,3]) rfl ?_
 refine l_ rfl (L_load rfl (xb0 ty_27)) ?_
 refine xmv ?_
 refine x_call rfl rfl rfl rfl rfl ca_67 (c_laws_heldCracker (1+q.vals.length+q.rows.length+2*q.piv.length) (t.vals.length) (t.rows.length) (t.piv.length) hle1 (by omega)) ?_ (ha:=by exact cons_eq (agg_eq (cons_eq (lendC_whole rfl (by simp [ints_len,seqF_len])) (cons_eq (lendC_whole rfl (by simp [ints_len,seqF_len])) (cons_eq (lendC_whole rfl (by simp [pairs_len,seqP_len])) rfl)))) (cons_eq rfl rfl))
 rintro r S ⟨rfl,rfl⟩
 refine xas ?_
 refine EOps_nil ?_
 refine E_seq ?_
 refine E_seq ?_
 refine E_region' (L:=[0,1]) rfl ?_
 refine xmv ?_
 refine p_ rfl (L_bin rfl rfl rfl rfl) ?_
 refine EOps_nil ?_
 refine E_cond rfl (fun hc141=>?_) (fun hc141=>?_)
 ·first|(simp at hc141;done)|(simp at hc141;omega)
 refine E_skip ?_
 refine E_seq ?_
 refine e_tidy_A177_0 [0,1,2,3,4,5,6,7,8,9,10,11,12,13,14,15,16,17,18,19,20,29,34,81,86,91,122,136,141] ?_
 refine E_region' (L:=[0,1,2,3]) rfl ?_
 refine xmv ?_
 refine xmv ?_
 refine x_call rfl rfl rfl rfl rfl ca_73 (c_laws_heldPairS (l.length) (1+q.vals.length+q.rows.length+2*q.piv.length+t.vals.length+t.rows.length+2*t.piv.length) hle2 (by omega)) ?_ (ha:=by exact cons_eq (lend_whole rfl (by simp [pairs_len,seqP_len])) (cons_eq rfl rfl))
 rintro r S ⟨rfl,rfl⟩
 refine xas ?_
 refine EOps_nil ?_
 refine E_seq ?_
 refine E_seq ?_
 refine E_region' (L:=[0,1]) rfl ?_
 refine xmv ?_
 refine p_ rfl (L_bin rfl rfl rfl rfl) ?_
 refine EOps_nil ?_
 refine E_cond rfl (fun hc146=>?_) (fun hc146=>?_)
 ·first|(simp at hc146;done)|(simp at hc146;omega)
 refine E_skip ?_
 refine E_seq ?_
 refine E_seq ?_
 refine E_region' (L:=[0,1,2]) rfl ?_
 refine xmv ?_
 refine xmv ?_
 refine p_ rfl (L_bin rfl rfl rfl rfl) ?_
 refine EOps_nil ?_
 refine E_cond rfl (fun hc149=>?_) (fun hc149=>?_)
 ·first|(simp at hc149;done)|(simp at hc149;omega)
 refine E_skip ?_
 refine E_seq ?_
 refine e_tidy_A177_0 [0,1,2,3,4,5,6,7,8,9,10,11,12,13,14,15,16,17,18,19,20,29,34,81,86,91,122,136,141,146,149] ?_
 refine E_drawT mixed ?_
 refine tl_ 0 rfl (L_load rfl (xb0 ty_90)) ?_
 refine tl_ 2 rfl (L_load rfl (xb0 ty_90)) ?_
 refine tl_ 4 rfl (L_load rfl (xb0 ty_101)) ?_
 refine t_main 4 [(⟨none,12,21,0⟩,_),(⟨none,13,22,0⟩,_)] [(1,false),(3,false),(5,false),(6,false),(7,true),(8,true),(9,true),(10,true),(11,true)] [152,154,156,157,150,158,159,160,161] [(21,.any),(22,.any),(152,.any),(154,.any),(156,.any),(157,.any),(150,.any),(158,.any),(159,.any),(160,.any),(161,.any)] [1,3,5,6,7,8,9,10,11,12,13] ⟨.one rfl rfl rfl (by decide) (F_alloc rfl za_27),.one rfl rfl rfl (by decide) (F_alloc rfl za_27),trivial⟩ ?_
 refine m_call rfl rfl rfl rfl rfl ca_61 (c_laws_toCracker a ha0) ?_
 rintro r S ⟨rfl,rfl⟩
 refine m_call rfl rfl rfl rfl rfl ca_61 (c_laws_toCracker b ha1) ?_
 rintro r S ⟨rfl,rfl⟩
 refine m_call rfl rfl rfl rfl rfl ca_69 (c_laws_toRange x.1 x.2) ?_
 rintro r S ⟨rfl,rfl⟩
 refine m_call rfl rfl rfl rfl rfl ca_70 (hg) ?_
 rintro r S ⟨rfl,rfl⟩
 refine m_pure rfl rfl rfl (L_move rfl) ?_
 refine m_pure rfl rfl rfl (L_extract rfl rfl) ?_
 refine m_pure rfl rfl rfl (L_extract rfl rfl) ?_
 refine m_pure rfl rfl rfl (L_extract rfl rfl) ?_
 refine m_pure rfl rfl rfl (L_extract rfl rfl) ?_
 refine m_done ?_
 refine fk_cons ?_
 rintro r S ⟨rfl,rfl⟩
 refine fk_cons ?_
 rintro r S ⟨rfl,rfl⟩
 refine fk_nil ?_
 refine t_turn 14 rfl rfl (EOp_store rfl rfl rfl (xb1 ty_27) ?_)
 refine t_turn 15 rfl rfl (EOp_store rfl rfl rfl (xb1 ty_27) ?_)
 refine tj_ 16 rfl (L_assign rfl) ?_
 refine tj_ 17 rfl (L_assign rfl) ?_
 refine T_done (by kernel_rfl) ?_
 refine E_seq ?_
 refine E_seq ?_
 refine e_tidy_A177_0 [0,1,2,3,4,5,6,7,8,9,10,11,12,13,14,15,16,17,18,19,20,21,22,23,24,29,34,81,86,91,122,136,141,146,149] ?_
 refine E_region' (L:=[0,1,2,3,4,5,6,7,8,9,10,11,12,13,14,15,16,17,18,19,20]) rfl ?_
 refine l_ rfl (L_load rfl (xb0 ty_27)) ?_
 refine l_ rfl (L_load rfl (xb0 ty_27)) ?_
 refine x_call rfl rfl rfl rfl rfl ca_64 (c_laws_eqCracker q q) ?_
 rintro r S ⟨rfl,rfl⟩
 refine p_ rfl (L_not rfl rfl) ?_
 refine xmv ?_
 refine EOps_split 166 (b:=_) rfl (fun hg166=>?_) (fun hg166=>?_)
 ·first|(simp at hg166;done)|(simp at hg166;omega)
 refine l_ rfl (L_load rfl (xb6 ty_27)) ?_
 refine l_ rfl (L_load rfl (xb0 ty_27)) ?_
 refine x_call rfl rfl rfl rfl rfl ca_64 (c_laws_eqCracker t t) ?_
 rintro r S ⟨rfl,rfl⟩
 refine p_ rfl (L_not rfl rfl) ?_
 refine p_ rfl (L_pick rfl rfl) ?_
 refine xmv ?_
 refine EOps_split 172 (b:=_) rfl (fun hg172=>?_) (fun hg172=>?_)
 ·first|(simp at hg172;done)|(simp at hg172;omega)
 refine xmv ?_
 refine xmv ?_
 refine x_call rfl rfl rfl rfl rfl ca_71 (c_laws_eqPairS l l) ?_
 rintro r S ⟨rfl,rfl⟩
 refine p_ rfl (L_not rfl rfl) ?_
 refine p_ rfl (L_pick rfl rfl) ?_
 refine xmv ?_
 refine EOps_split 178 (b:=_) rfl (fun hg178=>?_) (fun hg178=>?_)
 ·first|(simp at hg178;done)|(simp at hg178;omega)
 refine xmv ?_
 refine xmv ?_
 refine p_ rfl (L_binB rfl bo_4 rfl rfl rfl) ?_
 refine p_ rfl (L_pick rfl rfl) ?_
 refine EOps_nil ?_
 refine E_cond rfl (fun hc182=>?_) (fun hc182=>?_)
 ·first|(simp at hc182;done)|(simp at hc182;omega)
 refine E_skip ?_
 refine E_seq ?_
 refine E_region' (L:=[0]) rfl ?_
 refine xas ?_
 refine EOps_nil ?_
 refine E_seq ?_
 refine e_tidy_A177_0 [0,1,2,3,4,5,6,7,8,9,10,11,12,13,14,15,16,17,18,19,20,21,22,23,24,29,34,81,86,91,122,136,141,146,149,182] ?_
 refine E_region' (L:=[0,1,2,3]) rfl ?_
 refine l_ rfl (L_load rfl (xb0 ty_27)) ?_
 refine xmv ?_
 refine x_call rfl rfl rfl rfl rfl ca_67 (c_laws_heldCracker (1) (q.vals.length) (q.rows.length) (q.piv.length) hle0 (by omega)) ?_ (ha:=by exact cons_eq (agg_eq (cons_eq (lendC_whole rfl (by simp [ints_len,seqF_len])) (cons_eq (lendC_whole rfl (by simp [ints_len,seqF_len])) (cons_eq (lendC_whole rfl (by simp [pairs_len,seqP_len])) rfl)))) (cons_eq rfl rfl))
 rintro r S ⟨rfl,rfl⟩
 refine xas ?_
 refine EOps_nil ?_
 refine E_seq ?_
 refine E_seq ?_
 refine E_region' (L:=[0,1]) rfl ?_
 refine xmv ?_
 refine p_ rfl (L_bin rfl rfl rfl rfl) ?_
 refine EOps_nil ?_
 refine E_cond rfl (fun hc187=>?_) (fun hc187=>?_)
 ·first|(simp at hc187;done)|(simp at hc187;omega)
 refine E_skip ?_
 refine E_seq ?_
 refine e_tidy_A177_0 [0,1,2,3,4,5,6,7,8,9,10,11,12,13,14,15,16,17,18,19,20,21,22,23,24,29,34,81,86,91,122,136,141,146,149,182,187] ?_
 refine E_region' (L:=[0,1,2,3]) rfl ?_
 refine l_ rfl (L_load rfl (xb0 ty_27)) ?_
 refine xmv ?_
 refine x_call rfl rfl rfl rfl rfl ca_67 (c_laws_heldCracker (1+q.vals.length+q.rows.length+2*q.piv.length) (t.vals.length) (t.rows.length) (t.piv.length) hle1 (by omega)) ?_ (ha:=by exact cons_eq (agg_eq (cons_eq (lendC_whole rfl (by simp [ints_len,seqF_len])) (cons_eq (lendC_whole rfl (by simp [ints_len,seqF_len])) (cons_eq (lendC_whole rfl (by simp [pairs_len,seqP_len])) rfl)))) (cons_eq rfl rfl))
 rintro r S ⟨rfl,rfl⟩
 refine xas ?_
 refine EOps_nil ?_
 refine E_seq ?_
 refine E_seq ?_
 refine E_region' (L:=[0,1]) rfl ?_
 refine xmv ?_
 refine p_ rfl (L_bin rfl rfl rfl rfl) ?_
 refine EOps_nil ?_
 refine E_cond rfl (fun hc192=>?_) (fun hc192=>?_)
 ·first|(simp at hc192;done)|(simp at hc192;omega)
 refine E_skip ?_
 refine E_seq ?_
 refine e_tidy_A177_0 [0,1,2,3,4,5,6,7,8,9,10,11,12,13,14,15,16,17,18,19,20,21,22,23,24,29,34,81,86,91,122,136,141,146,149,182,187,192] ?_
 refine E_region' (L:=[0,1,2,3]) rfl ?_
 refine xmv ?_
 refine xmv ?_
 refine x_call rfl rfl rfl rfl rfl ca_73 (c_laws_heldPairS (l.length) (1+q.vals.length+q.rows.length+2*q.piv.length+t.vals.length+t.rows.length+2*t.piv.length) hle2 (by omega)) ?_ (ha:=by exact cons_eq (lend_whole rfl (by simp [pairs_len,seqP_len])) (cons_eq rfl rfl))
 rintro r S ⟨rfl,rfl⟩
 refine xas ?_
 refine EOps_nil ?_
 refine E_seq ?_
 refine E_seq ?_
 refine E_region' (L:=[0,1]) rfl ?_
 refine xmv ?_
 refine p_ rfl (L_bin rfl rfl rfl rfl) ?_
 refine EOps_nil ?_
 refine E_cond rfl (fun hc197=>?_) (fun hc197=>?_)
 ·first|(simp at hc197;done)|(simp at hc197;omega)
 refine E_skip ?_
 refine E_seq ?_
 refine E_seq ?_
 refine E_region' (L:=[0,1,2]) rfl ?_
 refine xmv ?_
 refine xmv ?_
 refine p_ rfl (L_bin rfl rfl rfl rfl) ?_
 refine EOps_nil ?_
 refine E_cond rfl (fun hc200=>?_) (fun hc200=>?_)
 ·first|(simp at hc200;done)|(simp at hc200;omega)
 refine E_skip ?_
 refine E_seq ?_
 refine E_region' (L:=[0]) rfl ?_
 refine xas ?_
 refine EOps_nil ?_
 refine E_ret ?_
 refine⟨_,[],rfl,rfl,?_,rfl⟩
 simp [AV.ren,ren_sc,ren_ro,AC.ren,AC.ren.rens,ix,rv1,E.get,E.ev,E.cv,E.fill',E.fill,E.slotsOf, *]

end Go.Proofs.Ytcepgfcolmdnoaa.E
