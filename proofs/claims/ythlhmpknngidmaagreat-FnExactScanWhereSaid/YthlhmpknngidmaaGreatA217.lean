/- Walks through functions, by program out of the session's annotations. -/
import Derived.Test.YthlhmpknngidmaaGreatA216
import Derived.Test.YthlhmpknngidmaaGreatA215
namespace Go.Proofs.YthlhmpknngidmaaGreat.E
open Go Go.RowKit Go.Proofs
set_option linter.unusedVariables false
set_option linter.unusedSimpArgs false

theorem totL_bd {ls : List (List Int)} {b : Nat} (h : ∀ l ∈ ls, l.length ≤ b) : totL ls ≤ ls.length * b := by
 induction ls with
 | nil=>simp [totL]
 | cons l ls ih =>
  have h1:=h l (List.mem_cons_self ..)
  have h2:=ih fun x hx=>h x (List.mem_cons_of_mem _ hx)
  rw [totL,List.length_cons,Nat.succ_mul]
  omega
theorem swX_bd {s : MSt} {r : Int × Int} {fs : List (Int × Int × Int)} {p : List Int} : (swX s r fs p).length ≤ 1048576 ∧ totL (swX s r fs p) ≤ 1048576 := by
 unfold swX
 split
 ·rename_i h
  simp only [Bool.and_eq_true] at h
  have hx:=(areVals_parts (ms_ok h.1).hd.hd).1
  have w1:=(wh_parts h.2).1
  have h1:=swL_len s fs p (scN s.head r s.head.length)
  have h2:=scN_len s.head r s.head.length
  have h3 : totL (swL s fs p (scN s.head r s.head.length)) ≤ (swL s fs p (scN s.head r s.head.length)).length * 4 := totL_bd fun l hl => by
   unfold swL at hl
   obtain⟨q,_,rfl⟩:=List.mem_map.1 hl
   rw [tupT_len];omega
  omega
 ·simp [totL]

theorem e_tidy_A217_0 {P:Program} {N:Nat} {s:Slots} {R:List Res} {Q:Exit→Slots→List Res→Prop} {c:Code} (keep:List Nat) {base:Slots} {R':List Res} (h:ECode P N c base R' Q) (hb:keepOf s keep=base:=by simp only [E.keepOf,E.get,E.ev,E.cv,E.fill',E.fill,E.slotsOf,Res.sh,AC.sh,AC.sh.shs,AV.sh,E.splice,List.map_cons,List.map_nil,List.cons_append,List.nil_append,List.append_nil,List.length_cons,List.length_nil,List.take_zero,List.drop_zero,List.take_succ_cons,List.drop_succ_cons,List.drop_nil,List.take_nil,List.set_cons_zero,List.set_cons_succ,Nat.zero_add,Nat.add_zero,Nat.reduceAdd,Nat.reduceSub,reduceIte,Nat.reduceEqDiff,E.back,E.backR,E.ix,Res.un,AC.un,AC.un.uns,AV.un,E.un,Option.map_some,Option.map_none,Option.getD_some,List.getElem?_cons_zero,List.getElem?_cons_succ,List.getElem?_nil,msR,msO];rfl) (hR:R=R':=by (try simp only [E.keepOf,E.get,E.ev,E.cv,E.fill',E.fill,E.slotsOf,Res.sh,AC.sh,AC.sh.shs,AV.sh,E.splice,List.map_cons,List.map_nil,List.cons_append,List.nil_append,List.append_nil,List.length_cons,List.length_nil,List.take_zero,List.drop_zero,List.take_succ_cons,List.drop_succ_cons,List.drop_nil,List.take_nil,List.set_cons_zero,List.set_cons_succ,Nat.zero_add,Nat.add_zero,Nat.reduceAdd,Nat.reduceSub,reduceIte,Nat.reduceEqDiff,E.back,E.backR,E.ix,Res.un,AC.un,AC.un.uns,AV.un,E.un,Option.map_some,Option.map_none,Option.getD_some,List.getElem?_cons_zero,List.getElem?_cons_succ,List.getElem?_nil,msR,msO]);rfl):ECode P N c s R Q:=E_tidy keep hb hR h

set_option maxRecDepth 20000 in
set_option maxHeartbeats 16000000 in
theorem c_laws_FnExactScanWhere (s : MSt) (r : Int × Int) (fs : List (Int × Int × Int)) (p : List Int) : EFn Tryz.prog 4 [.agg (msC s), .agg [.sc (.int .i64 r.1), .sc (.int .i64 r.2)], .c (.ro (trips fs)), .c (.ro (ints p))] [] (fun r S => r = .c (.sc (.bool true)) ∧ S = []) := by
 refine E_fn Tryz.func4 rfl (Nat.le_of_ble_eq_true rfl) ?_
 refine E_seq ?_
 refine E_region' (L:=[0,1,2]) rfl ?_
 refine x_box rfl rfl rfl rfl rfl ?_
 refine x_box rfl rfl rfl rfl rfl ?_
 refine xas ?_
 refine EOps_nil ?_
 refine E_seq ?_
 refine E_seq ?_
 refine E_region' (L:=[0,1,2]) rfl ?_
 refine xmv ?_
 refine x_pure rfl rfl rfl (l_len rfl sl_22) ?_
 refine x_pure rfl rfl rfl (L_bin rfl rfl rfl rfl) ?_
 refine EOps_nil ?_
 refine E_cond rfl (fun hc21=>?_) (fun hc21=>?_)
 ·refine E_seq ?_
  refine E_region' (L:=[0]) rfl ?_
  refine xas ?_
  refine EOps_nil ?_
  refine E_ret ?_
  refine⟨_,[],rfl,rfl,?_,rfl⟩
  simp [AV.ren,ren_sc,ren_ro,AC.ren,AC.ren.rens,ix,rv1,E.get,E.ev,E.cv,E.fill',E.fill,E.slotsOf, *]
 ·have ha3 : p.length ≤ 1048576 := by simp [ints_len, pairs_len, quads_len, quints_len, bools_len] at hc21; omega
  refine E_skip ?_
  refine E_seq ?_
  refine E_region' (L:=[0]) rfl ?_
  refine xas ?_
  refine EOps_nil ?_
  refine E_seq ?_
  refine e_tidy_A217_0 [0,1,2,3,4,5,8,9,21] ?_
  refine E_region' (L:=[0,1,2,3]) rfl ?_
  refine x_light rfl rfl rfl (L_load rfl (xb0 ty_27)) ?_
  refine xmv ?_
  refine x_call rfl rfl rfl rfl rfl ca_10 (c_laws_szMapSet (s) (1048576) (by omega)) ?_
  rintro r S ⟨rfl,rfl⟩
  refine xas ?_
  refine EOps_nil ?_
  refine E_seq ?_
  refine E_seq ?_
  refine E_region' (L:=[0,1]) rfl ?_
  refine xmv ?_
  refine x_pure rfl rfl rfl (L_bin rfl rfl rfl rfl) ?_
  refine EOps_nil ?_
  refine E_cond rfl (fun hc26=>?_) (fun hc26=>?_)
  ·refine E_seq ?_
   refine E_region' (L:=[0]) rfl ?_
   refine xas ?_
   refine EOps_nil ?_
   refine E_ret ?_
   refine⟨_,[],rfl,rfl,?_,rfl⟩
   simp [AV.ren,ren_sc,ren_ro,AC.ren,AC.ren.rens,ix,rv1,E.get,E.ev,E.cv,E.fill',E.fill,E.slotsOf, *]
  ·have h0 : ¬ szR (1048576) (msZ s) < 0 := by simpa using hc26
   have hl0:=szR_le h0
   have hr0:=szR_rng (l:=1048576) (n:=msZ s) (by omega)
   have ha0:msZ s≤1048576:=by omega
   refine E_skip ?_
   refine E_seq ?_
   refine e_tidy_A217_0 [0,1,2,3,4,5,8,9,21,26] ?_
   refine E_region' (L:=[0,1,2,3]) rfl ?_
   refine xmv ?_
   refine xmv ?_
   refine x_call rfl rfl rfl rfl rfl ca_17 (c_laws_szFilterS (fs) (szR (1048576) (msZ s)) hr0) ?_
   rintro r S ⟨rfl,rfl⟩
   refine xas ?_
   refine EOps_nil ?_
   refine E_seq ?_
   refine E_seq ?_
   refine E_region' (L:=[0,1]) rfl ?_
   refine xmv ?_
   refine x_pure rfl rfl rfl (L_bin rfl rfl rfl rfl) ?_
   refine EOps_nil ?_
   refine E_cond rfl (fun hc31=>?_) (fun hc31=>?_)
   ·refine E_seq ?_
    refine E_region' (L:=[0]) rfl ?_
    refine xas ?_
    refine EOps_nil ?_
    refine E_ret ?_
    refine⟨_,[],rfl,rfl,?_,rfl⟩
    simp [AV.ren,ren_sc,ren_ro,AC.ren,AC.ren.rens,ix,rv1,E.get,E.ev,E.cv,E.fill',E.fill,E.slotsOf, *]
   ·have h1 : ¬ szR (szR (1048576) (msZ s)) (fs.length) < 0 := by simpa using hc31
    have hl1:=szR_le h1
    have hr1:=szR_rng (l:=szR (1048576) (msZ s)) (n:=fs.length) hr0
    have ha2:fs.length≤1048576:=by omega
    have hnl0:=nest_len s.tails
    have hml0:=mps_len s.maps
    have htl0:=trips_len fs
    have hMM:=msM_le s
    have hw:=c_spec_ScanWhere s r fs p ha0 ha2 ha3
    have hg:=c_impl_ScanWhere s r fs p ha0 ha2 ha3
    have hle0:=swX_bd (s:=s) (r:=r) (fs:=fs) (p:=p)
    generalize swX s r fs p=l at hw hg hle0
    have hnl1:=nest_len l
    refine E_skip ?_
    refine E_seq ?_
    refine e_tidy_A217_0 [0,1,2,3,4,5,8,9,21,26,31] ?_
    refine E_drawT mixed ?_
    refine t_light 0 rfl rfl rfl (L_load rfl (xb0 ty_27)) ?_
    refine t_light 2 rfl rfl rfl (L_load rfl (xb0 ty_39)) ?_
    refine t_old 4 rfl rfl rfl (L_move rfl) ?_
    refine t_old 6 rfl rfl rfl (L_move rfl) ?_
    refine t_fresh 2 [(⟨none,1,33,0⟩,_),(⟨none,3,35,0⟩,_),(⟨none,5,37,0⟩,_),(⟨none,7,39,0⟩,_)] [(33,.any),(35,.any),(37,.any),(39,.any)] [1,3,5,7] ⟨.one rfl rfl rfl (by decide) (f_call rfl rfl ca_12 (c_laws_toMapSet s ha0)),.one rfl rfl rfl (by decide) (f_call rfl rfl ca_19 (c_laws_toRange r.1 r.2)),.one rfl rfl rfl (by decide) (f_call rfl rfl ca_20 (c_laws_toFilterS fs ha2)),.one rfl rfl rfl (by decide) (f_call rfl rfl ca_21 (c_laws_toIntS p ha3)),trivial⟩ ?_
    refine fk_cons ?_
    rintro r S ⟨rfl,rfl⟩
    refine fk_cons ?_
    rintro r S ⟨rfl,rfl⟩
    refine fk_cons ?_
    rintro r S ⟨rfl,rfl⟩
    refine fk_cons ?_
    rintro r S ⟨rfl,rfl⟩
    refine fk_nil ?_
    refine t_call 8 rfl rfl rfl rfl rfl ca_18 (hw) ?_
    rintro r S ⟨rfl,rfl⟩
    refine t_pure 9 rfl rfl rfl (L_assign rfl) ?_
    refine T_done (by kernel_rfl) ?_
    refine E_seq ?_
    refine e_tidy_A217_0 [0,1,2,3,4,5,8,9,10,21,26,31] ?_
    refine E_region' (L:=[0,1,2,3]) rfl ?_
    refine x_light rfl rfl rfl (L_load rfl (xb0 ty_27)) ?_
    refine x_call rfl rfl rfl rfl rfl ca_12 (c_laws_toMapSet s ha0) ?_
    rintro r S ⟨rfl,rfl⟩
    refine x_alloc rfl rfl rfl rfl za_31 ?_
    refine EOps_go rfl rfl (EOp_store rfl rfl rfl (xb1 ty_31) ?_)
    refine EOps_nil ?_
    refine E_seq ?_
    refine e_tidy_A217_0 [0,1,2,3,4,5,8,9,10,11,21,26,31] ?_
    refine E_region' (L:=[0,1,2]) rfl ?_
    refine xmv ?_
    refine x_call rfl rfl rfl rfl rfl ca_20 (c_laws_toFilterS fs ha2) ?_
    rintro r S ⟨rfl,rfl⟩
    refine xas ?_
    refine EOps_nil ?_
    refine E_seq ?_
    refine e_tidy_A217_0 [0,1,2,3,4,5,8,9,10,11,12,21,26,31] ?_
    refine E_region' (L:=[0,1,2]) rfl ?_
    refine xmv ?_
    refine x_call rfl rfl rfl rfl rfl ca_21 (c_laws_toIntS p ha3) ?_
    rintro r S ⟨rfl,rfl⟩
    refine xas ?_
    refine EOps_nil ?_
    refine E_seq ?_
    refine e_tidy_A217_0 [0,1,2,3,4,5,8,9,10,11,12,13,21,26,31] ?_
    refine E_drawT mixed ?_
    refine t_light 0 rfl rfl rfl (L_load rfl (xb0 ty_31)) ?_
    refine t_light 1 rfl rfl rfl (L_load rfl (xb0 ty_39)) ?_
    refine t_old 3 rfl rfl rfl (L_move rfl) ?_
    refine t_old 4 rfl rfl rfl (L_move rfl) ?_
    refine t_call 2 rfl rfl rfl rfl rfl ca_19 (c_laws_toRange r.1 r.2) ?_
    rintro r S ⟨rfl,rfl⟩
    refine t_call 5 rfl rfl rfl rfl rfl ca_22 (hg) ?_
    rintro r S ⟨rfl,rfl⟩
    refine t_pure 6 rfl rfl rfl (L_assign rfl) ?_
    refine T_done (by kernel_rfl) ?_
    refine E_seq ?_
    refine E_seq ?_
    refine e_tidy_A217_0 [0,1,2,3,4,5,8,9,10,11,12,13,14,21,26,31] ?_
    refine E_region' (L:=[0,1,2,3]) rfl ?_
    refine xmv ?_
    refine xmv ?_
    refine x_call rfl rfl rfl rfl rfl ca_23 (c_laws_eqIntSS l l) ?_
    rintro r S ⟨rfl,rfl⟩
    refine x_pure rfl rfl rfl (L_not rfl rfl) ?_
    refine EOps_nil ?_
    refine E_cond rfl (fun hc56=>?_) (fun hc56=>?_)
    ·first|(simp at hc56;done)|(simp at hc56;omega)
    ·refine E_skip ?_
     refine E_seq ?_
     refine E_seq ?_
     refine e_tidy_A217_0 [0,1,2,3,4,5,8,9,10,11,12,13,14,21,26,31,56] ?_
     refine E_drawT mixed ?_
     refine t_light 0 rfl rfl rfl (L_load rfl (xb0 ty_31)) ?_
     refine t_light 1 rfl rfl rfl (L_load rfl (xb0 ty_27)) ?_
     refine t_call 2 rfl rfl rfl rfl rfl ca_12 (c_laws_toMapSet s ha0) ?_
     rintro r S ⟨rfl,rfl⟩
     refine t_call 3 rfl rfl rfl rfl rfl ca_14 (c_laws_eqMapSet s s) ?_
     rintro r S ⟨rfl,rfl⟩
     refine t_old 4 rfl rfl rfl (L_not rfl rfl) ?_
     refine T_done (by kernel_rfl) ?_
     refine E_cond rfl (fun hc61=>?_) (fun hc61=>?_)
     ·first|(simp at hc61;done)|(simp at hc61;omega)
     ·refine E_skip ?_
      refine E_seq ?_
      refine E_seq ?_
      refine e_tidy_A217_0 [0,1,2,3,4,5,8,9,10,11,12,13,14,21,26,31,56,61] ?_
      refine E_region' (L:=[0,1,2,3,4]) rfl ?_
      refine xmv ?_
      refine xmv ?_
      refine x_call rfl rfl rfl rfl rfl ca_20 (c_laws_toFilterS fs ha2) ?_
      rintro r S ⟨rfl,rfl⟩
      refine x_call rfl rfl rfl rfl rfl ca_24 (c_laws_eqFilterS fs fs) ?_
      rintro r S ⟨rfl,rfl⟩
      refine x_pure rfl rfl rfl (L_not rfl rfl) ?_
      refine EOps_nil ?_
      refine E_cond rfl (fun hc66=>?_) (fun hc66=>?_)
      ·first|(simp at hc66;done)|(simp at hc66;omega)
      ·refine E_skip ?_
       refine E_seq ?_
       refine E_seq ?_
       refine e_tidy_A217_0 [0,1,2,3,4,5,8,9,10,11,12,13,14,21,26,31,56,61,66] ?_
       refine E_region' (L:=[0,1,2,3,4]) rfl ?_
       refine xmv ?_
       refine xmv ?_
       refine x_call rfl rfl rfl rfl rfl ca_21 (c_laws_toIntS p ha3) ?_
       rintro r S ⟨rfl,rfl⟩
       refine x_call rfl rfl rfl rfl rfl ca_25 (c_laws_eqIntS p p) ?_
       rintro r S ⟨rfl,rfl⟩
       refine x_pure rfl rfl rfl (L_not rfl rfl) ?_
       refine EOps_nil ?_
       refine E_cond rfl (fun hc71=>?_) (fun hc71=>?_)
       ·first|(simp at hc71;done)|(simp at hc71;omega)
       ·refine E_skip ?_
        refine E_seq ?_
        refine E_region' (L:=[0]) rfl ?_
        refine xas ?_
        refine EOps_nil ?_
        refine E_seq ?_
        refine e_tidy_A217_0 [0,1,2,3,4,5,8,9,10,11,12,13,14,15,21,26,31,56,61,66,71] ?_
        refine E_region' (L:=[0,1,2,3]) rfl ?_
        refine x_light rfl rfl rfl (L_load rfl (xb0 ty_31)) ?_
        refine xmv ?_
        refine x_frame [11,12,13,14,15,16] rfl rfl rfl rfl rfl ca_15 rfl (c_laws_markMapSet (1) s ha0 (by omega)) ?_
        rintro r S ⟨r0,S0,⟨rfl,rfl⟩,rfl,rfl⟩
        refine xas ?_
        refine EOps_nil ?_
        refine E_seq ?_
        refine e_tidy_A217_0 [0,1,2,3,4,5,8,9,10,11,12,13,14,15,21,26,31,56,61,66,71] ?_
        refine E_region' (L:=[0,1,2,3]) rfl ?_
        refine xmv ?_
        refine xmv ?_
        refine x_frame [18] rfl rfl rfl rfl rfl ca_26 rfl (c_laws_markFilterS _ (fs.length) (1+msM s) fs rfl ha2 (by omega)) ?_
        rintro r S ⟨r0,S0,⟨rfl,rfl⟩,rfl,rfl⟩
        refine xas ?_
        refine EOps_nil ?_
        refine E_seq ?_
        refine e_tidy_A217_0 [0,1,2,3,4,5,8,9,10,11,12,13,14,15,21,26,31,56,61,66,71] ?_
        refine E_region' (L:=[0,1,2,3]) rfl ?_
        refine xmv ?_
        refine xmv ?_
        refine x_frame [19] rfl rfl rfl rfl rfl ca_27 rfl (c_laws_markIntS _ (p.length) (1+msM s+3*fs.length) p rfl ha3 (by omega)) ?_
        rintro r S ⟨r0,S0,⟨rfl,rfl⟩,rfl,rfl⟩
        refine xas ?_
        refine EOps_nil ?_
        refine E_seq ?_
        refine E_seq ?_
        refine e_tidy_A217_0 [0,1,2,3,4,5,8,9,10,11,12,13,14,15,21,26,31,56,61,66,71] ?_
        refine E_region' (L:=[0,1,2,3,4,5,6,7]) rfl ?_
        refine xmv ?_
        refine x_pure rfl rfl rfl (L_bin rfl rfl rfl rfl) ?_
        refine xmv ?_
        refine EOps_split 83 (b:=_) rfl (fun hg83=>?_) (fun hg83=>?_)
        ·first|(simp at hg83;done)|(simp at hg83;omega)
        ·refine xmv ?_
         refine xmv ?_
         refine x_call rfl rfl rfl rfl rfl ca_23 (c_laws_eqIntSS l l) ?_
         rintro r S ⟨rfl,rfl⟩
         refine x_pure rfl rfl rfl (L_not rfl rfl) ?_
         refine x_pure rfl rfl rfl (L_pick rfl rfl) ?_
         refine EOps_nil ?_
         refine E_cond rfl (fun hc88=>?_) (fun hc88=>?_)
         ·first|(simp at hc88;done)|(simp at hc88;omega)
         ·refine E_skip ?_
          refine E_seq ?_
          refine E_region' (L:=[0]) rfl ?_
          refine xas ?_
          refine EOps_nil ?_
          refine E_seq ?_
          refine e_tidy_A217_0 [0,1,2,3,4,5,8,9,10,11,12,13,14,15,16,21,26,31,56,61,66,71,88] ?_
          refine E_region' (L:=[0,1,2,3]) rfl ?_
          refine xmv ?_
          refine xmv ?_
          refine x_frame [20] rfl rfl rfl rfl rfl ca_28 rfl (c_laws_markIntSS _ (l.length) (1) l rfl hle0 (by omega)) ?_
          rintro r S ⟨r0,S0,⟨rfl,rfl⟩,rfl,rfl⟩
          refine xas ?_
          refine EOps_nil ?_
          refine E_seq ?_
          refine E_region' (L:=[0]) rfl ?_
          refine xas ?_
          refine EOps_nil ?_
          refine E_seq ?_
          refine e_tidy_A217_0 [0,1,2,3,4,5,8,9,10,11,12,13,14,15,16,17,21,26,31,56,61,66,71,88] ?_
          refine E_region' (L:=[0,1,2,3]) rfl ?_
          refine xmv ?_
          refine xmv ?_
          refine x_call rfl rfl rfl rfl rfl ca_29 (c_laws_heldIntSS (1) l hle0 (by omega)) ?_ (ha:=by exact cons_eq (lend_whole rfl (by simp [nest_len,markN_len])) (cons_eq rfl rfl))
          rintro r S ⟨rfl,rfl⟩
          refine xas ?_
          refine EOps_nil ?_
          refine E_seq ?_
          refine E_seq ?_
          refine E_region' (L:=[0,1]) rfl ?_
          refine xmv ?_
          refine x_pure rfl rfl rfl (L_bin rfl rfl rfl rfl) ?_
          refine EOps_nil ?_
          refine E_cond rfl (fun hc96=>?_) (fun hc96=>?_)
          ·first|(simp at hc96;done)|(simp at hc96;omega)
          ·refine E_skip ?_
           refine E_seq ?_
           refine E_seq ?_
           refine E_region' (L:=[0,1,2]) rfl ?_
           refine xmv ?_
           refine xmv ?_
           refine x_pure rfl rfl rfl (L_bin rfl rfl rfl rfl) ?_
           refine EOps_nil ?_
           refine E_cond rfl (fun hc99=>?_) (fun hc99=>?_)
           ·first|(simp at hc99;done)|(simp at hc99;omega)
           ·refine E_skip ?_
            refine E_seq ?_
            refine e_tidy_A217_0 [0,1,2,3,4,5,8,9,10,11,12,13,14,15,16,17,21,26,31,56,61,66,71,88,96,99] ?_
            refine E_drawT mixed ?_
            refine t_light 0 rfl rfl rfl (L_load rfl (xb0 ty_27)) ?_
            refine t_light 2 rfl rfl rfl (L_load rfl (xb0 ty_39)) ?_
            refine t_old 4 rfl rfl rfl (L_move rfl) ?_
            refine t_old 6 rfl rfl rfl (L_move rfl) ?_
            refine t_fresh 2 [(⟨none,1,101,0⟩,_),(⟨none,3,103,0⟩,_),(⟨none,5,105,0⟩,_),(⟨none,7,107,0⟩,_)] [(101,.any),(103,.any),(105,.any),(107,.any)] [1,3,5,7] ⟨.one rfl rfl rfl (by decide) (f_call rfl rfl ca_12 (c_laws_toMapSet s ha0)),.one rfl rfl rfl (by decide) (f_call rfl rfl ca_19 (c_laws_toRange r.1 r.2)),.one rfl rfl rfl (by decide) (f_call rfl rfl ca_20 (c_laws_toFilterS fs ha2)),.one rfl rfl rfl (by decide) (f_call rfl rfl ca_21 (c_laws_toIntS p ha3)),trivial⟩ ?_
            refine fk_cons ?_
            rintro r S ⟨rfl,rfl⟩
            refine fk_cons ?_
            rintro r S ⟨rfl,rfl⟩
            refine fk_cons ?_
            rintro r S ⟨rfl,rfl⟩
            refine fk_cons ?_
            rintro r S ⟨rfl,rfl⟩
            refine fk_nil ?_
            refine t_call 8 rfl rfl rfl rfl rfl ca_22 (hg) ?_
            rintro r S ⟨rfl,rfl⟩
            refine t_pure 9 rfl rfl rfl (L_assign rfl) ?_
            refine T_done (by kernel_rfl) ?_
            refine E_seq ?_
            refine E_seq ?_
            refine e_tidy_A217_0 [0,1,2,3,4,5,8,9,10,11,12,13,14,15,16,17,18,21,26,31,56,61,66,71,88,96,99] ?_
            refine E_region' (L:=[0,1,2,3]) rfl ?_
            refine xmv ?_
            refine xmv ?_
            refine x_call rfl rfl rfl rfl rfl ca_23 (c_laws_eqIntSS l l) ?_
            rintro r S ⟨rfl,rfl⟩
            refine x_pure rfl rfl rfl (L_not rfl rfl) ?_
            refine EOps_nil ?_
            refine E_cond rfl (fun hc112=>?_) (fun hc112=>?_)
            ·first|(simp at hc112;done)|(simp at hc112;omega)
            ·refine E_skip ?_
             refine E_seq ?_
             refine E_region' (L:=[0]) rfl ?_
             refine xas ?_
             refine EOps_nil ?_
             refine E_seq ?_
             refine e_tidy_A217_0 [0,1,2,3,4,5,8,9,10,11,12,13,14,15,16,17,18,21,26,31,56,61,66,71,88,96,99,112] ?_
             refine E_region' (L:=[0,1,2,3]) rfl ?_
             refine xmv ?_
             refine xmv ?_
             refine x_call rfl rfl rfl rfl rfl ca_29 (c_laws_heldIntSS (1) l hle0 (by omega)) ?_ (ha:=by exact cons_eq (lend_whole rfl (by simp [nest_len,markN_len])) (cons_eq rfl rfl))
             rintro r S ⟨rfl,rfl⟩
             refine xas ?_
             refine EOps_nil ?_
             refine E_seq ?_
             refine E_seq ?_
             refine E_region' (L:=[0,1]) rfl ?_
             refine xmv ?_
             refine x_pure rfl rfl rfl (L_bin rfl rfl rfl rfl) ?_
             refine EOps_nil ?_
             refine E_cond rfl (fun hc117=>?_) (fun hc117=>?_)
             ·first|(simp at hc117;done)|(simp at hc117;omega)
             ·refine E_skip ?_
              refine E_seq ?_
              refine E_seq ?_
              refine E_region' (L:=[0,1,2]) rfl ?_
              refine xmv ?_
              refine xmv ?_
              refine x_pure rfl rfl rfl (L_bin rfl rfl rfl rfl) ?_
              refine EOps_nil ?_
              refine E_cond rfl (fun hc120=>?_) (fun hc120=>?_)
              ·first|(simp at hc120;done)|(simp at hc120;omega)
              ·refine E_skip ?_
               refine E_seq ?_
               refine E_region' (L:=[0]) rfl ?_
               refine xas ?_
               refine EOps_nil ?_
               refine E_ret ?_
               refine⟨_,[],rfl,rfl,?_,rfl⟩
               simp [AV.ren,ren_sc,ren_ro,AC.ren,AC.ren.rens,ix,rv1,E.get,E.ev,E.cv,E.fill',E.fill,E.slotsOf, *]

end Go.Proofs.YthlhmpknngidmaaGreat.E
