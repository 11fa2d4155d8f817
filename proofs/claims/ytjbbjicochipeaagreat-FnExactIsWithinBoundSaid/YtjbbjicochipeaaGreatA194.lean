/- Walks through functions, by program out of the session's annotations. -/
import Derived.Test.YtjbbjicochipeaaGreatA190
import Derived.Test.YtjbbjicochipeaaGreatA05
import Derived.Test.YtjbbjicochipeaaGreatA96
import Derived.Test.YtjbbjicochipeaaGreatA180
namespace Go.Proofs.YtjbbjicochipeaaGreat.E
open Go Go.RowKit Go.Proofs
set_option linter.unusedVariables false
set_option linter.unusedSimpArgs false

theorem e_tidy_A194_0 {P:Program} {N:Nat} {s:Slots} {R:List Res} {Q:Exit→Slots→List Res→Prop} {c:Code} (keep:List Nat) {base:Slots} {R':List Res} (h:ECode P N c base R' Q) (hb:keepOf s keep=base:=by simp only [E.keepOf,E.get,E.ev,E.cv,E.fill',E.fill,E.slotsOf,Res.sh,AC.sh,AC.sh.shs,AV.sh,E.splice,List.map_cons,List.map_nil,List.cons_append,List.nil_append,List.append_nil,List.length_cons,List.length_nil,List.take_zero,List.drop_zero,List.take_succ_cons,List.drop_succ_cons,List.drop_nil,List.take_nil,List.set_cons_zero,List.set_cons_succ,Nat.zero_add,Nat.add_zero,Nat.reduceAdd,Nat.reduceSub,reduceIte,Nat.reduceEqDiff,E.back,E.backR,E.ix,Res.un,AC.un,AC.un.uns,AV.un,E.un,Option.map_some,Option.map_none,Option.getD_some,List.getElem?_cons_zero,List.getElem?_cons_succ,List.getElem?_nil,crkO,crkR];rfl) (hR:R=R':=by (try simp only [E.keepOf,E.get,E.ev,E.cv,E.fill',E.fill,E.slotsOf,Res.sh,AC.sh,AC.sh.shs,AV.sh,E.splice,List.map_cons,List.map_nil,List.cons_append,List.nil_append,List.append_nil,List.length_cons,List.length_nil,List.take_zero,List.drop_zero,List.take_succ_cons,List.drop_succ_cons,List.drop_nil,List.take_nil,List.set_cons_zero,List.set_cons_succ,Nat.zero_add,Nat.add_zero,Nat.reduceAdd,Nat.reduceSub,reduceIte,Nat.reduceEqDiff,E.back,E.backR,E.ix,Res.un,AC.un,AC.un.uns,AV.un,E.un,Option.map_some,Option.map_none,Option.getD_some,List.getElem?_cons_zero,List.getElem?_cons_succ,List.getElem?_nil,crkO,crkR]);rfl):ECode P N c s R Q:=E_tidy keep hb hR h

set_option maxRecDepth 20000 in
set_option maxHeartbeats 4000000 in
theorem c_laws_FnExactIsWithinBound (xs : List Int) (s : Sett) (rs : List (Int × Int)) : EFn Tryz.prog 3 [.c (.ro (ints xs)), .agg (setC s), .c (.ro (pairs rs))] [] (fun r S => r = .c (.sc (.bool true)) ∧ S = []) := by
 refine E_fn Tryz.func3 rfl (Nat.le_of_ble_eq_true rfl) ?_
 refine E_seq ?_
 refine E_region' (L:=[0,1]) rfl ?_
 refine x_box rfl rfl rfl rfl rfl ?_
 refine xas ?_
 refine EOps_nil ?_
 refine E_seq ?_
 refine E_seq ?_
 refine E_region' (L:=[0,1,2]) rfl ?_
 refine xmv ?_
 refine p_ rfl (l_len rfl sl_22) ?_
 refine p_ rfl (L_bin rfl rfl rfl rfl) ?_
 refine EOps_nil ?_
 refine E_cond rfl (fun hc14=>?_) (fun hc14=>?_)
 ·refine E_seq ?_
  refine E_region' (L:=[0]) rfl ?_
  refine xas ?_
  refine EOps_nil ?_
  refine E_ret ?_
  refine⟨_,[],rfl,rfl,?_,rfl⟩
  simp [AV.ren,ren_sc,ren_ro,AC.ren,AC.ren.rens,ix,rv1,E.get,E.ev,E.cv,E.fill',E.fill,E.slotsOf, *]
 have hx : xs.length ≤ 1048576 := by simp [ints_len] at hc14; omega
 refine E_skip ?_
 refine E_seq ?_
 refine E_region' (L:=[0]) rfl ?_
 refine xas ?_
 refine EOps_nil ?_
 refine E_seq ?_
 refine e_tidy_A194_0 [0,1,2,4,6,7,14] ?_
 refine E_region' (L:=[0,1,2,3]) rfl ?_
 refine xmv ?_
 refine xmv ?_
 refine x_call rfl rfl rfl rfl rfl ca_5 (c_laws_szRangeS rs 1048576 (by omega)) ?_
 rintro r S ⟨rfl,rfl⟩
 refine xas ?_
 refine EOps_nil ?_
 refine E_seq ?_
 refine E_seq ?_
 refine E_region' (L:=[0,1]) rfl ?_
 refine xmv ?_
 refine p_ rfl (L_bin rfl rfl rfl rfl) ?_
 refine EOps_nil ?_
 refine E_cond rfl (fun hc19=>?_) (fun hc19=>?_)
 ·refine E_seq ?_
  refine E_region' (L:=[0]) rfl ?_
  refine xas ?_
  refine EOps_nil ?_
  refine E_ret ?_
  refine⟨_,[],rfl,rfl,?_,rfl⟩
  simp [AV.ren,ren_sc,ren_ro,AC.ren,AC.ren.rens,ix,rv1,E.get,E.ev,E.cv,E.fill',E.fill,E.slotsOf, *]
 have h1 : ¬ szR 1048576 rs.length < 0 := by simpa using hc19
 have hr:=szR_le h1
 have hrl:rs.length≤1048576:=by omega
 refine E_skip ?_
 refine E_seq ?_
 refine e_tidy_A194_0 [0,1,2,4,6,7,14,19] ?_
 refine E_drawT mixed ?_
 refine tj_ 0 rfl (L_move rfl) ?_
 refine tl_ 2 rfl (L_load rfl (xb0 ty_24)) ?_
 refine tj_ 4 rfl (L_move rfl) ?_
 refine t_fresh 2 [(⟨none,1,21,0⟩,_),(⟨none,3,23,0⟩,_),(⟨none,5,25,0⟩,_)] [(21,.any),(23,.any),(25,.any)] [1,3,5] ⟨.one rfl rfl rfl (by decide) (f_call rfl rfl ca_7 (c_laws_toIntS xs hx)),.one rfl rfl rfl (by decide) (f_call rfl rfl ca_8 (c_laws_toSettings s)),.one rfl rfl rfl (by decide) (f_call rfl rfl ca_9 (c_laws_toRangeS rs hrl)),trivial⟩ ?_
 refine fk_cons ?_
 rintro r S ⟨rfl,rfl⟩
 refine fk_cons ?_
 rintro r S ⟨rfl,rfl⟩
 refine fk_cons ?_
 rintro r S ⟨rfl,rfl⟩
 refine fk_nil ?_
 refine t_call 6 rfl rfl rfl rfl rfl ca_6 (c_spec_IsWithinBound xs s rs hx) ?_
 rintro r S ⟨rfl,rfl⟩
 refine tj_ 7 rfl (L_assign rfl) ?_
 refine T_done (by kernel_rfl) ?_
 refine E_seq ?_
 refine e_tidy_A194_0 [0,1,2,4,6,7,8,14,19] ?_
 refine E_region' (L:=[0,1,2]) rfl ?_
 refine xmv ?_
 refine x_call rfl rfl rfl rfl rfl ca_7 (c_laws_toIntS xs hx) ?_
 rintro r S ⟨rfl,rfl⟩
 refine xas ?_
 refine EOps_nil ?_
 refine E_seq ?_
 refine e_tidy_A194_0 [0,1,2,4,6,7,8,9,14,19] ?_
 refine E_region' (L:=[0,1,2]) rfl ?_
 refine xmv ?_
 refine x_call rfl rfl rfl rfl rfl ca_9 (c_laws_toRangeS rs hrl) ?_
 rintro r S ⟨rfl,rfl⟩
 refine xas ?_
 refine EOps_nil ?_
 refine E_seq ?_
 refine e_tidy_A194_0 [0,1,2,4,6,7,8,9,10,14,19] ?_
 refine E_region' (L:=[0,1,2,3,4,5]) rfl ?_
 refine xmv ?_
 refine l_ rfl (L_load rfl (xb0 ty_24)) ?_
 refine x_call rfl rfl rfl rfl rfl ca_8 (c_laws_toSettings s) ?_
 rintro r S ⟨rfl,rfl⟩
 refine xmv ?_
 refine x_call rfl rfl rfl rfl rfl ca_10 (c_impl_IsWithinBound xs s rs) ?_
 rintro r S ⟨rfl,rfl⟩
 refine xas ?_
 refine EOps_nil ?_
 refine E_seq ?_
 refine E_seq ?_
 refine E_region' (L:=[0,1,2]) rfl ?_
 refine xmv ?_
 refine xmv ?_
 refine p_ rfl (L_binB rfl bo_4 rfl rfl rfl) ?_
 refine EOps_nil ?_
 refine E_cond rfl (fun hc38=>?_) (fun hc38=>?_)
 ·simp at hc38
 refine E_skip ?_
 refine E_seq ?_
 refine E_seq ?_
 refine e_tidy_A194_0 [0,1,2,4,6,7,8,9,10,11,14,19,38] ?_
 refine E_region' (L:=[0,1,2,3,4]) rfl ?_
 refine xmv ?_
 refine xmv ?_
 refine x_call rfl rfl rfl rfl rfl ca_7 (c_laws_toIntS xs hx) ?_
 rintro r S ⟨rfl,rfl⟩
 refine x_call rfl rfl rfl rfl rfl ca_11 (c_laws_eqIntS xs xs) ?_
 rintro r S ⟨rfl,rfl⟩
 refine p_ rfl (L_not rfl rfl) ?_
 refine EOps_nil ?_
 refine E_cond rfl (fun hc43=>?_) (fun hc43=>?_)
 ·simp at hc43
 refine E_skip ?_
 refine E_seq ?_
 refine E_seq ?_
 refine e_tidy_A194_0 [0,1,2,4,6,7,8,9,10,11,14,19,38,43] ?_
 refine E_region' (L:=[0,1,2,3,4]) rfl ?_
 refine xmv ?_
 refine xmv ?_
 refine x_call rfl rfl rfl rfl rfl ca_9 (c_laws_toRangeS rs hrl) ?_
 rintro r S ⟨rfl,rfl⟩
 refine x_call rfl rfl rfl rfl rfl ca_12 (c_laws_eqRangeS rs rs) ?_
 rintro r S ⟨rfl,rfl⟩
 refine p_ rfl (L_not rfl rfl) ?_
 refine EOps_nil ?_
 refine E_cond rfl (fun hc48=>?_) (fun hc48=>?_)
 ·simp at hc48
 refine E_skip ?_
 refine E_seq ?_
 refine E_region' (L:=[0]) rfl ?_
 refine xas ?_
 refine EOps_nil ?_
 refine E_ret ?_
 refine⟨_,[],rfl,rfl,?_,rfl⟩
 simp [AV.ren,ren_sc,ren_ro,AC.ren,AC.ren.rens,ix,rv1,E.get,E.ev,E.cv,E.fill',E.fill,E.slotsOf, *]

end Go.Proofs.YtjbbjicochipeaaGreat.E
