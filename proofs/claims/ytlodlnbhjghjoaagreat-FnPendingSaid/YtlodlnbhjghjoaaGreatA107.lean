/- Walks through functions, by program out of the session's annotations. -/
import Derived.Test.YtlodlnbhjghjoaaGreatA104
import Derived.Test.YtlodlnbhjghjoaaGreatA105
import Derived.Test.YtlodlnbhjghjoaaGreatA47
import Derived.Test.YtlodlnbhjghjoaaGreatF4
namespace Go.Proofs.YtlodlnbhjghjoaaGreat.E
open Go Go.RowKit Go.Proofs
set_option linter.unusedVariables false
set_option linter.unusedSimpArgs false

theorem mgL_le' {c : Crk} {p : Pnd} {r : Int × Int} (h : c.vals.length ≤ 1048576 ∧ c.rows.length ≤ 1048576 ∧ c.piv.length ≤ 1048576) (h' : p.ins.length ≤ 1048576 ∧ p.del.length ≤ 1048576) : ((mgC c p r).vals.length ≤ 1048576 ∧ (mgC c p r).rows.length ≤ 1048576 ∧ (mgC c p r).piv.length ≤ 1048576) ∧ (mgP c p r).ins.length ≤ 1048576 ∧ (mgP c p r).del.length ≤ 1048576 := by
 cases hk:mgK c p r
 ·simp only [mgC,mgP,hk,Bool.false_eq_true,if_false];exact⟨h,h'⟩
 have hp := pnd_ok (mgK_parts hk).1
 have I:=mD_ok hp r p.del.length (Nat.le_refl _)
 have J:=mI_ok hp r p.ins.length (Nat.le_refl _)
 have h1:=I.ll
 have h2:=J.ll
 have h3:=crk_lens ((crk_iff _).2 J.ok)
 simp only [mgC,mgP,hk,if_true]
 have:=hp.il
 have:=hp.dl
 omega
def sfC (c:Crk) (p:Pnd) (r:Int × Int):Crk:=if mgK c p r=true then selC (mgC c p r) r else c
def sfL (c:Crk) (p:Pnd) (r:Int × Int):List Int:=if mgK c p r=true then rowsB (selC (mgC c p r) r) (selLo (mgC c p r) r) (selHi (mgC c p r) r) else []
theorem sf_le {c : Crk} {p : Pnd} {r : Int × Int} (h : c.vals.length ≤ 1048576 ∧ c.rows.length ≤ 1048576 ∧ c.piv.length ≤ 1048576) (h' : p.ins.length ≤ 1048576 ∧ p.del.length ≤ 1048576) : ((sfC c p r).vals.length ≤ 1048576 ∧ (sfC c p r).rows.length ≤ 1048576 ∧ (sfC c p r).piv.length ≤ 1048576) ∧ (sfL c p r).length ≤ 1048576 := by
 have hm:=(mgL_le' (c:=c) (p:=p) (r:=r) h h').1
 cases hk:mgK c p r
 ·simp only [sfC,sfL,hk,Bool.false_eq_true,if_false];exact⟨h,by simp⟩
 simp only [sfC,sfL,hk,if_true];exact⟨sel_le hm,rowsB_le⟩

theorem e_tidy_A107_0 {P:Program} {N:Nat} {s:Slots} {R:List Res} {Q:Exit→Slots→List Res→Prop} {c:Code} (keep:List Nat) {base:Slots} {R':List Res} (h:ECode P N c base R' Q) (hb:keepOf s keep=base:=by simp only [E.keepOf,E.get,E.ev,E.cv,E.fill',E.fill,E.slotsOf,Res.sh,AC.sh,AC.sh.shs,AV.sh,E.splice,List.map_cons,List.map_nil,List.cons_append,List.nil_append,List.append_nil,List.length_cons,List.length_nil,List.take_zero,List.drop_zero,List.take_succ_cons,List.drop_succ_cons,List.drop_nil,List.take_nil,List.set_cons_zero,List.set_cons_succ,Nat.zero_add,Nat.add_zero,Nat.reduceAdd,Nat.reduceSub,reduceIte,Nat.reduceEqDiff,E.back,E.backR,E.ix,Res.un,AC.un,AC.un.uns,AV.un,E.un,Option.map_some,Option.map_none,Option.getD_some,List.getElem?_cons_zero,List.getElem?_cons_succ,List.getElem?_nil,crkR,crkO,pndO,pndR];rfl) (hR:R=R':=by (try simp only [E.keepOf,E.get,E.ev,E.cv,E.fill',E.fill,E.slotsOf,Res.sh,AC.sh,AC.sh.shs,AV.sh,E.splice,List.map_cons,List.map_nil,List.cons_append,List.nil_append,List.append_nil,List.length_cons,List.length_nil,List.take_zero,List.drop_zero,List.take_succ_cons,List.drop_succ_cons,List.drop_nil,List.take_nil,List.set_cons_zero,List.set_cons_succ,Nat.zero_add,Nat.add_zero,Nat.reduceAdd,Nat.reduceSub,reduceIte,Nat.reduceEqDiff,E.back,E.backR,E.ix,Res.un,AC.un,AC.un.uns,AV.un,E.un,Option.map_some,Option.map_none,Option.getD_some,List.getElem?_cons_zero,List.getElem?_cons_succ,List.getElem?_nil,crkR,crkO,pndO,pndR]);rfl):ECode P N c s R Q:=E_tidy keep hb hR h

set_option maxRecDepth 20000 in
set_option maxHeartbeats 8000000 in
theorem c_impl_SelectFresh (c : Crk) (p : Pnd) (r : Int × Int) (hb : (c.vals.length ≤ 1048576 ∧ c.rows.length ≤ 1048576 ∧ c.piv.length ≤ 1048576) ∧ p.ins.length ≤ 1048576 ∧ p.del.length ≤ 1048576) : EFn Tryz.prog 65 [.agg (crkC c), .agg (pndC p), .agg [.sc (.int .i64 r.1), .sc (.int .i64 r.2)]] [] (fun y S => y = .tup [(true, crkO 0 (sfC c p r)), (true, pndO 3 (mgP c p r)), (false, [.sl 5 0 (sfL c p r).length (sfL c p r).length])] ∧ S = crkR 3 151 (sfC c p r) ++ pndR 3 104 (mgP c p r) ++ [.row 3 1 (ints (sfL c p r))]) := by
  refine E_fn Tryz.func65 rfl (Nat.le_of_ble_eq_true rfl) ?_
  refine E_seq ?_
  refine E_region' (L:=[0,1,2,3,4,5]) rfl ?_
  refine x_box rfl rfl rfl rfl rfl ?_
  refine x_box rfl rfl rfl rfl rfl ?_
  refine x_box rfl rfl rfl rfl rfl ?_
  refine x_alloc rfl rfl rfl rfl za_49 ?_
  refine x_alloc rfl rfl rfl rfl za_91 ?_
  refine xas ?_
  refine EOps_nil ?_
  refine E_seq ?_
  refine E_seq ?_
  refine e_tidy_A107_0 [0,1,2,3,4,5,6,7,8] ?_
  refine E_region' (L:=[0,1,2,3,4,5,6,7,8]) rfl ?_
  refine l_ rfl (L_load rfl (xb0 ty_49)) ?_
  refine l_ rfl (L_load rfl (xb0 ty_91)) ?_
  refine x_call rfl rfl rfl rfl rfl ca_74 (c_impl_IsPending c p ⟨hb.1.2.1,by omega⟩) ?_
  rintro r S ⟨rfl,rfl⟩
  refine p_ rfl (L_not rfl rfl) ?_
  refine xmv ?_
  refine EOps_split 17 (b:=_) rfl (fun hg17=>?_) (fun hg17=>?_)
  · refine s_ rfl ?_
    refine s_ rfl ?_
    refine s_ rfl ?_
    refine p_ rfl (L_pick rfl rfl) ?_
    refine EOps_nil ?_
    refine E_cond rfl (fun hc21=>?_) (fun hc21=>?_)
    · have hk : mgK c p r = false := by
        simp only [mgK]
        first|(simp_all;done)|simp_all
      have hcc:sfC c p r=c∧mgP c p r=p∧sfL c p r=[]:=by simp [sfC,mgP,sfL,hk]
      refine E_seq ?_
      refine e_tidy_A107_0 [0,1,2,3,4,5,6,7,8,21] ?_
      refine E_drawD [0,1] mixed ?_
      refine d_load' 0 rfl rfl rfl rfl rfl (d_bp ty_49) ?_
      refine d_load' 2 rfl rfl rfl rfl rfl (d_bp ty_91) ?_
      refine d_any 1 [] ⟨?_,trivial⟩
      refine d_call 1 rfl rfl rfl rfl rfl ca_104 (c_impl_copyCracker c hb.1) ?_
      rintro r S ⟨rfl,rfl⟩
      refine d_any 3 [] ⟨?_,trivial⟩
      refine d_call 3 rfl rfl rfl rfl rfl ca_140 (c_impl_copyPending p hb.2) ?_
      rintro r S ⟨rfl,rfl⟩
      refine d_any 4 [] ⟨?_,trivial⟩
      refine d_store' 4 rfl rfl rfl rfl rfl rfl (s_bp ty_49) ?_
      refine d_any 5 [] ⟨?_,trivial⟩
      refine d_store' 5 rfl rfl rfl rfl rfl rfl (s_bp ty_91) ?_
      refine d_pure' 6 rfl rfl rfl (L_assign rfl) ?_
      refine D_done (by kernel_rfl) ?_
      first|refine E_ghostS 8 3 1 rfl (by decide) ?_|skip
      refine E_ret ?_
      rw [hcc.1,hcc.2.2]
      first
        | exact⟨_,[12,13,14,8,9,15],rfl,rfl,rfl,rfl⟩
        | (rw [hcc.2.1]; first
            | exact⟨_,[5,6,7,8,9,10],rfl,rfl,rfl,rfl⟩
            | exact⟨_,[6,7,8,9,10,5],rfl,rfl,rfl,rfl⟩
            | exact⟨_,[5,6,7,9,10,8],rfl,rfl,rfl,rfl⟩)
    exact Bool.noConfusion (hc21:true=false)
  refine l_ rfl (L_load rfl (xb3 ty_53)) ?_
  refine x_call rfl rfl rfl rfl rfl ca_103 (c_impl_IsRange r) ?_
  rintro r S ⟨rfl,rfl⟩
  refine p_ rfl (L_not rfl rfl) ?_
  refine p_ rfl (L_pick rfl rfl) ?_
  refine EOps_nil ?_
  refine E_cond rfl (fun hc21=>?_) (fun hc21=>?_)
  · have hk : mgK c p r = false := by
      simp only [mgK]
      first|(simp_all;done)|simp_all
    have hcc:sfC c p r=c∧mgP c p r=p∧sfL c p r=[]:=by simp [sfC,mgP,sfL,hk]
    refine E_seq ?_
    refine e_tidy_A107_0 [0,1,2,3,4,5,6,7,8,21] ?_
    refine E_drawD [0,1] mixed ?_
    refine d_load' 0 rfl rfl rfl rfl rfl (d_bp ty_49) ?_
    refine d_load' 2 rfl rfl rfl rfl rfl (d_bp ty_91) ?_
    refine d_any 1 [] ⟨?_,trivial⟩
    refine d_call 1 rfl rfl rfl rfl rfl ca_104 (c_impl_copyCracker c hb.1) ?_
    rintro r S ⟨rfl,rfl⟩
    refine d_any 3 [] ⟨?_,trivial⟩
    refine d_call 3 rfl rfl rfl rfl rfl ca_140 (c_impl_copyPending p hb.2) ?_
    rintro r S ⟨rfl,rfl⟩
    refine d_any 4 [] ⟨?_,trivial⟩
    refine d_store' 4 rfl rfl rfl rfl rfl rfl (s_bp ty_49) ?_
    refine d_any 5 [] ⟨?_,trivial⟩
    refine d_store' 5 rfl rfl rfl rfl rfl rfl (s_bp ty_91) ?_
    refine d_pure' 6 rfl rfl rfl (L_assign rfl) ?_
    refine D_done (by kernel_rfl) ?_
    first|refine E_ghostS 8 3 1 rfl (by decide) ?_|skip
    refine E_ret ?_
    rw [hcc.1,hcc.2.2]
    first
      | exact⟨_,[12,13,14,8,9,15],rfl,rfl,rfl,rfl⟩
      | (rw [hcc.2.1]; first
          | exact⟨_,[5,6,7,8,9,10],rfl,rfl,rfl,rfl⟩
          | exact⟨_,[6,7,8,9,10,5],rfl,rfl,rfl,rfl⟩
          | exact⟨_,[5,6,7,9,10,8],rfl,rfl,rfl,rfl⟩)
  have hk : mgK c p r = true := by
    simp only [mgK]
    simp_all
  have hle:=mgL_le' (c:=c) (p:=p) (r:=r) hb.1 hb.2
  have hcc:sfC c p r=selC (mgC c p r) r∧mgP c p r=mgP c p r∧sfL c p r=rowsB (selC (mgC c p r) r) (selLo (mgC c p r) r) (selHi (mgC c p r) r):=by simp [sfC,sfL,hk]
  refine E_skip ?_
  refine E_seq ?_
  refine e_tidy_A107_0 [0,1,2,3,4,5,6,7,8,21] ?_
  refine E_region' (L:=[0,1,2,3,4,5,6,7,8,9,10,11,12]) rfl ?_
  refine l_ rfl (L_load rfl (xb0 ty_49)) ?_
  refine l_ rfl (L_load rfl (xb0 ty_91)) ?_
  refine l_ rfl (L_load rfl (xb0 ty_53)) ?_
  refine x_call rfl rfl rfl rfl rfl ca_70 (c_impl_MergeRange c p r hb) ?_
  rintro r S ⟨rfl,rfl⟩
  refine xmv ?_
  refine p_ rfl (L_extract rfl rfl) ?_
  refine p_ rfl (L_extract rfl rfl) ?_
  refine p_ rfl (L_extract rfl rfl) ?_
  refine x_alloc rfl rfl rfl rfl za_49 ?_
  refine x_alloc rfl rfl rfl rfl za_91 ?_
  refine EOps_go rfl rfl (EOp_store rfl rfl rfl (xb1 ty_49) ?_)
  refine EOps_go rfl rfl (EOp_store rfl rfl rfl (xb1 ty_91) ?_)
  refine xas ?_
  refine EOps_nil ?_
  refine E_seq ?_
  refine e_tidy_A107_0 [0,1,2,3,4,5,6,7,8,9,10,21] ?_
  refine E_region' (L:=[0,1,2,3,4,5,6,7]) rfl ?_
  refine l_ rfl (L_load rfl (xb0 ty_49)) ?_
  refine l_ rfl (L_load rfl (xb0 ty_53)) ?_
  refine x_call rfl rfl rfl rfl rfl ca_141 (c_impl_AnswerRange (mgC c p r) r hle.1) ?_
  rintro r S ⟨rfl,rfl⟩
  refine xmv ?_
  refine p_ rfl (L_extract rfl rfl) ?_
  refine p_ rfl (L_extract rfl rfl) ?_
  refine EOps_go rfl rfl (EOp_store rfl rfl rfl (xb1 ty_49) ?_)
  refine xas ?_
  refine EOps_nil ?_
  refine E_seq ?_
  refine E_drawD [10,11] mixed ?_
  refine d_pure' 2 rfl rfl rfl (L_move rfl) ?_
  refine d_load' 0 rfl rfl rfl rfl rfl (d_bp ty_49) ?_
  refine d_load' 1 rfl rfl rfl rfl rfl (d_bp ty_91) ?_
  refine d_any 3 [] ⟨?_,trivial⟩
  refine d_store' 3 rfl rfl rfl rfl rfl rfl (s_bp ty_49) ?_
  refine d_any 4 [] ⟨?_,trivial⟩
  refine d_store' 4 rfl rfl rfl rfl rfl rfl (s_bp ty_91) ?_
  refine d_pure' 5 rfl rfl rfl (L_assign rfl) ?_
  refine D_done (by kernel_rfl) ?_
  first|refine E_ghostS 8 3 1 rfl (by decide) ?_|skip
  refine E_ret ?_
  rw [hcc.1,hcc.2.2]
  first
    | exact⟨_,[12,13,14,8,9,15],rfl,rfl,rfl,rfl⟩
    | (rw [hcc.2.1]; first
        | exact⟨_,[5,6,7,8,9,10],rfl,rfl,rfl,rfl⟩
        | exact⟨_,[6,7,8,9,10,5],rfl,rfl,rfl,rfl⟩
        | exact⟨_,[5,6,7,9,10,8],rfl,rfl,rfl,rfl⟩)

end Go.Proofs.YtlodlnbhjghjoaaGreat.E
