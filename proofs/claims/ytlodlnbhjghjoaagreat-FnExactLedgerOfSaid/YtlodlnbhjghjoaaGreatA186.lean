/- Walks through functions, by program out of the session's annotations. -/
import Derived.Test.YtlodlnbhjghjoaaGreatA185
import Derived.Test.YtlodlnbhjghjoaaGreatA180
import Derived.Test.YtlodlnbhjghjoaaGreatA96
namespace Go.Proofs.YtlodlnbhjghjoaaGreat.E
open Go Go.RowKit Go.Proofs
set_option linter.unusedVariables false
set_option linter.unusedSimpArgs false

theorem e_tidy_A186_0 {P:Program} {N:Nat} {s:Slots} {R:List Res} {Q:Exit→Slots→List Res→Prop} {c:Code} (keep:List Nat) {base:Slots} {R':List Res} (h:ECode P N c base R' Q) (hb:keepOf s keep=base:=by simp only [E.keepOf,E.get,E.ev,E.cv,E.fill',E.fill,E.slotsOf,Res.sh,AC.sh,AC.sh.shs,AV.sh,E.splice,List.map_cons,List.map_nil,List.cons_append,List.nil_append,List.append_nil,List.length_cons,List.length_nil,List.take_zero,List.drop_zero,List.take_succ_cons,List.drop_succ_cons,List.drop_nil,List.take_nil,List.set_cons_zero,List.set_cons_succ,Nat.zero_add,Nat.add_zero,Nat.reduceAdd,Nat.reduceSub,reduceIte,Nat.reduceEqDiff,E.back,E.backR,E.ix,Res.un,AC.un,AC.un.uns,AV.un,E.un,Option.map_some,Option.map_none,Option.getD_some,List.getElem?_cons_zero,List.getElem?_cons_succ,List.getElem?_nil,crkO,crkR];rfl) (hR:R=R':=by (try simp only [E.keepOf,E.get,E.ev,E.cv,E.fill',E.fill,E.slotsOf,Res.sh,AC.sh,AC.sh.shs,AV.sh,E.splice,List.map_cons,List.map_nil,List.cons_append,List.nil_append,List.append_nil,List.length_cons,List.length_nil,List.take_zero,List.drop_zero,List.take_succ_cons,List.drop_succ_cons,List.drop_nil,List.take_nil,List.set_cons_zero,List.set_cons_succ,Nat.zero_add,Nat.add_zero,Nat.reduceAdd,Nat.reduceSub,reduceIte,Nat.reduceEqDiff,E.back,E.backR,E.ix,Res.un,AC.un,AC.un.uns,AV.un,E.un,Option.map_some,Option.map_none,Option.getD_some,List.getElem?_cons_zero,List.getElem?_cons_succ,List.getElem?_nil,crkO,crkR]);rfl):ECode P N c s R Q:=E_tidy keep hb hR h

set_option maxRecDepth 20000 in
set_option maxHeartbeats 8000000 in
theorem c_laws_FnExactLedgerOf (xs : List Int) (s : Sett) (rs : List (Int × Int)) : EFn Tryz.prog 3 [.c (.ro (ints xs)), .agg (setC s), .c (.ro (pairs rs))] [] (fun r S => r = .c (.sc (.bool true)) ∧ S = []) := by
 refine E_fn Tryz.func3 rfl (Nat.le_of_ble_eq_true rfl) ?_
 refine E_seq ?_
 refine E_region' (L:=[0,1]) rfl ?_
 refine x_box rfl rfl rfl rfl rfl ?_
 refine xas ?_
 refine EOps_nil ?_
 refine E_seq ?_
 refine E_seq ?_
 refine E_region' (L:=[0,1,2]) rfl ?_
 refine xmv ?_
 refine p_ rfl (l_len rfl sl_22) ?_
 refine p_ rfl (L_bin rfl rfl rfl rfl) ?_
 refine EOps_nil ?_
 refine E_cond rfl (fun hc18=>?_) (fun hc18=>?_)
 ·refine E_seq ?_
  refine E_region' (L:=[0]) rfl ?_
  refine xas ?_
  refine EOps_nil ?_
  refine E_ret ?_
  refine⟨_,[],rfl,rfl,?_,rfl⟩
  simp [AV.ren,ren_sc,ren_ro,AC.ren,AC.ren.rens,ix,rv1,E.get,E.ev,E.cv,E.fill',E.fill,E.slotsOf, *]
 have ha0 : xs.length ≤ 1048576 := by simp [ints_len, pairs_len, quads_len, quints_len, bools_len] at hc18; omega
 refine E_skip ?_
 refine E_seq ?_
 refine E_region' (L:=[0]) rfl ?_
 refine xas ?_
 refine EOps_nil ?_
 refine E_seq ?_
 refine e_tidy_A186_0 [0,1,2,4,6,7,18] ?_
 refine E_region' (L:=[0,1,2,3]) rfl ?_
 refine xmv ?_
 refine xmv ?_
 refine x_call rfl rfl rfl rfl rfl ca_12 (c_laws_szRangeS (rs) (1048576) (by omega)) ?_
 rintro r S ⟨rfl,rfl⟩
 refine xas ?_
 refine EOps_nil ?_
 refine E_seq ?_
 refine E_seq ?_
 refine E_region' (L:=[0,1]) rfl ?_
 refine xmv ?_
 refine p_ rfl (L_bin rfl rfl rfl rfl) ?_
 refine EOps_nil ?_
 refine E_cond rfl (fun hc23=>?_) (fun hc23=>?_)
 ·refine E_seq ?_
  refine E_region' (L:=[0]) rfl ?_
  refine xas ?_
  refine EOps_nil ?_
  refine E_ret ?_
  refine⟨_,[],rfl,rfl,?_,rfl⟩
  simp [AV.ren,ren_sc,ren_ro,AC.ren,AC.ren.rens,ix,rv1,E.get,E.ev,E.cv,E.fill',E.fill,E.slotsOf, *]
 have h0 : ¬ szR (1048576) (rs.length) < 0 := by simpa using hc23
 have hl0:=szR_le h0
 have hr0:=szR_rng (l:=1048576) (n:=rs.length) (by omega)
 have ha2:rs.length≤1048576:=by omega
 have hw:=c_spec_LedgerOf xs s rs
 have hg:=c_impl_LedgerOf xs s rs
 have hle0:=ledL_le (xs:=xs) (s:=s) (rs:=rs)
 generalize ledL xs s rs=l at hw hg hle0
 refine E_skip ?_
 refine E_seq ?_
 refine e_tidy_A186_0 [0,1,2,4,6,7,18,23] ?_
 refine E_drawT mixed ?_
 refine tj_ 0 rfl (L_move rfl) ?_
 refine tl_ 2 rfl (L_load rfl (xb0 ty_24)) ?_
 refine tj_ 4 rfl (L_move rfl) ?_
 refine t_fresh 2 [(⟨none,1,25,0⟩,_),(⟨none,3,27,0⟩,_),(⟨none,5,29,0⟩,_)] [(25,.any),(27,.any),(29,.any)] [1,3,5] ⟨.one rfl rfl rfl (by decide) (f_call rfl rfl ca_14 (c_laws_toIntS xs ha0)),.one rfl rfl rfl (by decide) (f_call rfl rfl ca_15 (c_laws_toSettings s)),.one rfl rfl rfl (by decide) (f_call rfl rfl ca_16 (c_laws_toRangeS rs ha2)),trivial⟩ ?_
 refine fk_cons ?_
 rintro r S ⟨rfl,rfl⟩
 refine fk_cons ?_
 rintro r S ⟨rfl,rfl⟩
 refine fk_cons ?_
 rintro r S ⟨rfl,rfl⟩
 refine fk_nil ?_
 refine t_call 6 rfl rfl rfl rfl rfl ca_13 (hw) ?_
 rintro r S ⟨rfl,rfl⟩
 refine tp_ 7 rfl (L_assign rfl) ?_
 refine T_done (by kernel_rfl) ?_
 refine E_seq ?_
 refine e_tidy_A186_0 [0,1,2,4,6,7,8,18,23] ?_
 refine E_region' (L:=[0,1,2]) rfl ?_
 refine xmv ?_
 refine x_call rfl rfl rfl rfl rfl ca_14 (c_laws_toIntS xs ha0) ?_
 rintro r S ⟨rfl,rfl⟩
 refine xas ?_
 refine EOps_nil ?_
 refine E_seq ?_
 refine e_tidy_A186_0 [0,1,2,4,6,7,8,9,18,23] ?_
 refine E_region' (L:=[0,1,2]) rfl ?_
 refine xmv ?_
 refine x_call rfl rfl rfl rfl rfl ca_16 (c_laws_toRangeS rs ha2) ?_
 rintro r S ⟨rfl,rfl⟩
 refine xas ?_
 refine EOps_nil ?_
 refine E_seq ?_
 refine e_tidy_A186_0 [0,1,2,4,6,7,8,9,10,18,23] ?_
 refine E_region' (L:=[0,1,2,3,4,5]) rfl ?_
 refine xmv ?_
 refine l_ rfl (L_load rfl (xb0 ty_24)) ?_
 refine x_call rfl rfl rfl rfl rfl ca_15 (c_laws_toSettings s) ?_
 rintro r S ⟨rfl,rfl⟩
 refine xmv ?_
 refine x_call rfl rfl rfl rfl rfl ca_17 (hg) ?_
 rintro r S ⟨rfl,rfl⟩
 refine xas ?_
 refine EOps_nil ?_
 refine E_seq ?_
 refine E_seq ?_
 refine e_tidy_A186_0 [0,1,2,4,6,7,8,9,10,11,18,23] ?_
 refine E_region' (L:=[0,1,2,3]) rfl ?_
 refine xmv ?_
 refine xmv ?_
 refine x_call rfl rfl rfl rfl rfl ca_18 (c_laws_eqChargeS l l) ?_
 rintro r S ⟨rfl,rfl⟩
 refine p_ rfl (L_not rfl rfl) ?_
 refine EOps_nil ?_
 refine E_cond rfl (fun hc43=>?_) (fun hc43=>?_)
 ·first|(simp at hc43;done)|(simp at hc43;omega)
 refine E_skip ?_
 refine E_seq ?_
 refine E_seq ?_
 refine e_tidy_A186_0 [0,1,2,4,6,7,8,9,10,11,18,23,43] ?_
 refine E_region' (L:=[0,1,2,3,4]) rfl ?_
 refine xmv ?_
 refine xmv ?_
 refine x_call rfl rfl rfl rfl rfl ca_14 (c_laws_toIntS xs ha0) ?_
 rintro r S ⟨rfl,rfl⟩
 refine x_call rfl rfl rfl rfl rfl ca_19 (c_laws_eqIntS xs xs) ?_
 rintro r S ⟨rfl,rfl⟩
 refine p_ rfl (L_not rfl rfl) ?_
 refine EOps_nil ?_
 refine E_cond rfl (fun hc48=>?_) (fun hc48=>?_)
 ·first|(simp at hc48;done)|(simp at hc48;omega)
 refine E_skip ?_
 refine E_seq ?_
 refine E_seq ?_
 refine e_tidy_A186_0 [0,1,2,4,6,7,8,9,10,11,18,23,43,48] ?_
 refine E_region' (L:=[0,1,2,3,4]) rfl ?_
 refine xmv ?_
 refine xmv ?_
 refine x_call rfl rfl rfl rfl rfl ca_16 (c_laws_toRangeS rs ha2) ?_
 rintro r S ⟨rfl,rfl⟩
 refine x_call rfl rfl rfl rfl rfl ca_20 (c_laws_eqRangeS rs rs) ?_
 rintro r S ⟨rfl,rfl⟩
 refine p_ rfl (L_not rfl rfl) ?_
 refine EOps_nil ?_
 refine E_cond rfl (fun hc53=>?_) (fun hc53=>?_)
 ·first|(simp at hc53;done)|(simp at hc53;omega)
 refine E_skip ?_
 refine E_seq ?_
 refine E_region' (L:=[0]) rfl ?_
 refine xas ?_
 refine EOps_nil ?_
 refine E_seq ?_
 refine e_tidy_A186_0 [0,1,2,4,6,7,8,9,10,11,12,18,23,43,48,53] ?_
 refine E_region' (L:=[0,1,2,3]) rfl ?_
 refine xmv ?_
 refine xmv ?_
 refine x_frame [4] rfl rfl rfl rfl rfl ca_21 rfl (c_laws_markIntS _ (xs.length) (1) xs rfl ha0 (by omega)) ?_
 rintro r S ⟨r0,S0,⟨rfl,rfl⟩,rfl,rfl⟩
 refine xas ?_
 refine EOps_nil ?_
 refine E_seq ?_
 refine e_tidy_A186_0 [0,1,2,4,6,7,8,9,10,11,12,18,23,43,48,53] ?_
 refine E_region' (L:=[0,1,2,3]) rfl ?_
 refine xmv ?_
 refine xmv ?_
 refine x_frame [5] rfl rfl rfl rfl rfl ca_22 rfl (c_laws_markRangeS _ (rs.length) (1+xs.length) rs rfl ha2 (by omega)) ?_
 rintro r S ⟨r0,S0,⟨rfl,rfl⟩,rfl,rfl⟩
 refine xas ?_
 refine EOps_nil ?_
 refine E_seq ?_
 refine E_seq ?_
 refine e_tidy_A186_0 [0,1,2,4,6,7,8,9,10,11,12,18,23,43,48,53] ?_
 refine E_region' (L:=[0,1,2,3,4,5,6,7]) rfl ?_
 refine xmv ?_
 refine p_ rfl (L_bin rfl rfl rfl rfl) ?_
 refine xmv ?_
 refine EOps_split 62 (b:=_) rfl (fun hg62=>?_) (fun hg62=>?_)
 ·first|(simp at hg62;done)|(simp at hg62;omega)
 refine xmv ?_
 refine xmv ?_
 refine x_call rfl rfl rfl rfl rfl ca_18 (c_laws_eqChargeS l l) ?_
 rintro r S ⟨rfl,rfl⟩
 refine p_ rfl (L_not rfl rfl) ?_
 refine p_ rfl (L_pick rfl rfl) ?_
 refine EOps_nil ?_
 refine E_cond rfl (fun hc67=>?_) (fun hc67=>?_)
 ·first|(simp at hc67;done)|(simp at hc67;omega)
 refine E_skip ?_
 refine E_seq ?_
 refine E_region' (L:=[0]) rfl ?_
 refine xas ?_
 refine EOps_nil ?_
 refine E_seq ?_
 refine e_tidy_A186_0 [0,1,2,4,6,7,8,9,10,11,12,13,18,23,43,48,53,67] ?_
 refine E_region' (L:=[0,1,2,3]) rfl ?_
 refine xmv ?_
 refine xmv ?_
 refine x_frame [6] rfl rfl rfl rfl rfl ca_23 rfl (c_laws_markChargeS _ (l.length) (1) l rfl hle0 (by omega)) ?_
 rintro r S ⟨r0,S0,⟨rfl,rfl⟩,rfl,rfl⟩
 refine xas ?_
 refine EOps_nil ?_
 refine E_seq ?_
 refine E_region' (L:=[0]) rfl ?_
 refine xas ?_
 refine EOps_nil ?_
 refine E_seq ?_
 refine e_tidy_A186_0 [0,1,2,4,6,7,8,9,10,11,12,13,14,18,23,43,48,53,67] ?_
 refine E_region' (L:=[0,1,2,3]) rfl ?_
 refine xmv ?_
 refine xmv ?_
 refine x_call rfl rfl rfl rfl rfl ca_24 (c_laws_heldChargeS (l.length) (1) hle0 (by omega)) ?_ (ha:=by exact cons_eq (lend_whole rfl (by simp [quints_len,seqV_len])) (cons_eq rfl rfl))
 rintro r S ⟨rfl,rfl⟩
 refine xas ?_
 refine EOps_nil ?_
 refine E_seq ?_
 refine E_seq ?_
 refine E_region' (L:=[0,1]) rfl ?_
 refine xmv ?_
 refine p_ rfl (L_bin rfl rfl rfl rfl) ?_
 refine EOps_nil ?_
 refine E_cond rfl (fun hc75=>?_) (fun hc75=>?_)
 ·first|(simp at hc75;done)|(simp at hc75;omega)
 refine E_skip ?_
 refine E_seq ?_
 refine E_seq ?_
 refine E_region' (L:=[0,1,2]) rfl ?_
 refine xmv ?_
 refine xmv ?_
 refine p_ rfl (L_bin rfl rfl rfl rfl) ?_
 refine EOps_nil ?_
 refine E_cond rfl (fun hc78=>?_) (fun hc78=>?_)
 ·first|(simp at hc78;done)|(simp at hc78;omega)
 refine E_skip ?_
 refine E_seq ?_
 refine e_tidy_A186_0 [0,1,2,4,6,7,8,9,10,11,12,13,14,18,23,43,48,53,67,75,78] ?_
 refine E_drawT mixed ?_
 refine tj_ 0 rfl (L_move rfl) ?_
 refine tl_ 2 rfl (L_load rfl (xb0 ty_24)) ?_
 refine tj_ 4 rfl (L_move rfl) ?_
 refine t_fresh 2 [(⟨none,1,80,0⟩,_),(⟨none,3,82,0⟩,_),(⟨none,5,84,0⟩,_)] [(80,.any),(82,.any),(84,.any)] [1,3,5] ⟨.one rfl rfl rfl (by decide) (f_call rfl rfl ca_14 (c_laws_toIntS xs ha0)),.one rfl rfl rfl (by decide) (f_call rfl rfl ca_15 (c_laws_toSettings s)),.one rfl rfl rfl (by decide) (f_call rfl rfl ca_16 (c_laws_toRangeS rs ha2)),trivial⟩ ?_
 refine fk_cons ?_
 rintro r S ⟨rfl,rfl⟩
 refine fk_cons ?_
 rintro r S ⟨rfl,rfl⟩
 refine fk_cons ?_
 rintro r S ⟨rfl,rfl⟩
 refine fk_nil ?_
 refine t_call 6 rfl rfl rfl rfl rfl ca_17 (hg) ?_
 rintro r S ⟨rfl,rfl⟩
 refine tp_ 7 rfl (L_assign rfl) ?_
 refine T_done (by kernel_rfl) ?_
 refine E_seq ?_
 refine E_seq ?_
 refine e_tidy_A186_0 [0,1,2,4,6,7,8,9,10,11,12,13,14,15,18,23,43,48,53,67,75,78] ?_
 refine E_region' (L:=[0,1,2,3]) rfl ?_
 refine xmv ?_
 refine xmv ?_
 refine x_call rfl rfl rfl rfl rfl ca_18 (c_laws_eqChargeS l l) ?_
 rintro r S ⟨rfl,rfl⟩
 refine p_ rfl (L_not rfl rfl) ?_
 refine EOps_nil ?_
 refine E_cond rfl (fun hc89=>?_) (fun hc89=>?_)
 ·first|(simp at hc89;done)|(simp at hc89;omega)
 refine E_skip ?_
 refine E_seq ?_
 refine E_region' (L:=[0]) rfl ?_
 refine xas ?_
 refine EOps_nil ?_
 refine E_seq ?_
 refine e_tidy_A186_0 [0,1,2,4,6,7,8,9,10,11,12,13,14,15,18,23,43,48,53,67,75,78,89] ?_
 refine E_region' (L:=[0,1,2,3]) rfl ?_
 refine xmv ?_
 refine xmv ?_
 refine x_call rfl rfl rfl rfl rfl ca_24 (c_laws_heldChargeS (l.length) (1) hle0 (by omega)) ?_ (ha:=by exact cons_eq (lend_whole rfl (by simp [quints_len,seqV_len])) (cons_eq rfl rfl))
 rintro r S ⟨rfl,rfl⟩
 refine xas ?_
 refine EOps_nil ?_
 refine E_seq ?_
 refine E_seq ?_
 refine E_region' (L:=[0,1]) rfl ?_
 refine xmv ?_
 refine p_ rfl (L_bin rfl rfl rfl rfl) ?_
 refine EOps_nil ?_
 refine E_cond rfl (fun hc94=>?_) (fun hc94=>?_)
 ·first|(simp at hc94;done)|(simp at hc94;omega)
 refine E_skip ?_
 refine E_seq ?_
 refine E_seq ?_
 refine E_region' (L:=[0,1,2]) rfl ?_
 refine xmv ?_
 refine xmv ?_
 refine p_ rfl (L_bin rfl rfl rfl rfl) ?_
 refine EOps_nil ?_
 refine E_cond rfl (fun hc97=>?_) (fun hc97=>?_)
 ·first|(simp at hc97;done)|(simp at hc97;omega)
 refine E_skip ?_
 refine E_seq ?_
 refine E_region' (L:=[0]) rfl ?_
 refine xas ?_
 refine EOps_nil ?_
 refine E_ret ?_
 refine⟨_,[],rfl,rfl,?_,rfl⟩
 simp [AV.ren,ren_sc,ren_ro,AC.ren,AC.ren.rens,ix,rv1,E.get,E.ev,E.cv,E.fill',E.fill,E.slotsOf, *]

end Go.Proofs.YtlodlnbhjghjoaaGreat.E
