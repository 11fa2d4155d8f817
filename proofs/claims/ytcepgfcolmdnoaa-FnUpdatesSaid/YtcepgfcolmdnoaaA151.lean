/- Walks through functions, by program out of the session's annotations. -/
import Derived.Test.YtcepgfcolmdnoaaA152
namespace Go.Proofs.Ytcepgfcolmdnoaa.E
open Go Go.RowKit Go.Proofs
set_option linter.unusedVariables false
set_option linter.unusedSimpArgs false

theorem e_tidy_A151_0 {P:Program} {N:Nat} {s:Slots} {R:List Res} {Q:Exit→Slots→List Res→Prop} {c:Code} (keep:List Nat) {base:Slots} {R':List Res} (h:ECode P N c base R' Q) (hb:keepOf s keep=base:=by simp only [E.keepOf,E.get,E.ev,E.cv,E.fill',E.fill,E.slotsOf,Res.sh,AC.sh,AC.sh.shs,AV.sh,E.splice,List.map_cons,List.map_nil,List.cons_append,List.nil_append,List.append_nil,List.length_cons,List.length_nil,List.take_zero,List.drop_zero,List.take_succ_cons,List.drop_succ_cons,List.drop_nil,List.take_nil,List.set_cons_zero,List.set_cons_succ,Nat.zero_add,Nat.add_zero,Nat.reduceAdd,Nat.reduceSub,reduceIte,Nat.reduceEqDiff,E.back,E.backR,E.ix,Res.un,AC.un,AC.un.uns,AV.un,E.un,Option.map_some,Option.map_none,Option.getD_some,List.getElem?_cons_zero,List.getElem?_cons_succ,List.getElem?_nil,ints_app,ints_lenApp,pairs_app,pairs_lenApp,pndO,pndR];rfl) (hR:R=R':=by (try simp only [E.keepOf,E.get,E.ev,E.cv,E.fill',E.fill,E.slotsOf,Res.sh,AC.sh,AC.sh.shs,AV.sh,E.splice,List.map_cons,List.map_nil,List.cons_append,List.nil_append,List.append_nil,List.length_cons,List.length_nil,List.take_zero,List.drop_zero,List.take_succ_cons,List.drop_succ_cons,List.drop_nil,List.take_nil,List.set_cons_zero,List.set_cons_succ,Nat.zero_add,Nat.add_zero,Nat.reduceAdd,Nat.reduceSub,reduceIte,Nat.reduceEqDiff,E.back,E.backR,E.ix,Res.un,AC.un,AC.un.uns,AV.un,E.un,Option.map_some,Option.map_none,Option.getD_some,List.getElem?_cons_zero,List.getElem?_cons_succ,List.getElem?_nil,ints_app,ints_lenApp,pairs_app,pairs_lenApp,pndO,pndR]);rfl):ECode P N c s R Q:=E_tidy keep hb hR h

set_option maxRecDepth 20000 in
set_option maxHeartbeats 2000000 in
theorem c_spec_AddDelete (c : Crk) (p : Pnd) (x : Int) (hb : c.rows.length ≤ 1048576 ∧ p.ins.length ≤ 1048576 ∧ p.del.length ≤ 1048576) : EFn Try.prog 38 [.agg (crkC c), .agg (pndC p), .c (.sc (.int .i64 x))] [] (fun r S => r = .tup [(true, pndO 0 (delR c p x)), (false, [.sc (.bool (delOk c p x))])] ∧ S = pndR 3 60 (delR c p x)) := by
 refine E_fn Try.func38 rfl (Nat.le_of_ble_eq_true rfl) ?_
 refine E_seq ?_
 refine E_region' (L:=[0,1,2,3]) rfl ?_
 refine x_box rfl rfl rfl rfl rfl ?_
 refine x_box rfl rfl rfl rfl rfl ?_
 refine x_alloc rfl rfl rfl rfl za_58 ?_
 refine xas ?_
 refine EOps_nil ?_
 refine E_seq ?_
 refine e_tidy_A151_0 [0,1,2,3,4,6,7] ?_
 refine E_region' (L:=[0,1,2,3]) rfl ?_
 refine x_light rfl rfl rfl (L_load rfl (xb0 ty_58)) ?_
 refine x_call rfl rfl rfl rfl rfl ca_108 (c_spec_l11Copy p ⟨by omega,hb.2.2⟩) ?_
 rintro r S ⟨rfl,rfl⟩
 refine x_alloc rfl rfl rfl rfl za_58 ?_
 refine EOps_go rfl rfl (EOp_store rfl rfl rfl (xb1 ty_58) ?_)
 refine EOps_nil ?_
 refine E_seq ?_
 refine e_tidy_A151_0 [0,1,2,3,4,6,7,8] ?_
 refine E_region' (L:=[0,1,2,3]) rfl ?_
 refine x_light rfl rfl rfl (L_load rfl (xb0 ty_58)) ?_
 refine xmv ?_
 refine x_call rfl rfl rfl rfl rfl ca_115 (c_spec_l11HasRow p x (by omega)) ?_
 rintro r S ⟨rfl,rfl⟩
 refine xas ?_
 refine EOps_nil ?_
 refine E_seq ?_
 refine E_seq ?_
 refine E_region' (L:=[0,1]) rfl ?_
 refine xmv ?_
 refine x_pure rfl rfl rfl (L_bin rfl rfl rfl rfl) ?_
 refine EOps_nil ?_
 refine E_cond rfl (fun hc16=>?_) (fun hc16=>?_)
 ·obtain ⟨k, hk, he⟩ := (insIx_cases p.ins x).resolve_left (by have h2 : insIx p.ins x ≥ 0 := of_decide_eq_true hc16; omega)
  have hdN:=delN_at he
  have hpd:=c_spec_IsPending c ⟨p.ins.take k++p.ins.drop (k+1),p.del⟩ ⟨hb.1,by simp;omega⟩
  have hct:(p.ins.drop (k+1)).take ((pairs p.ins).length - (k+1))=p.ins.drop (k+1):=List.take_of_length_le (by simp [pairs_len])
  have hkp:k<(pairs p.ins).length:=by rw [pairs_len];exact hk
  rw [he]
  refine E_drawT mixed ?_
  refine t_old 1 rfl rfl rfl (l_field rfl fo_58_0) ?_
  refine t_light 2 rfl rfl rfl (L_load rfl (xb0 ty_56)) ?_
  refine t_old 3 rfl rfl rfl (L_move rfl) ?_
  refine t_old 4 rfl rfl rfl (Pure.as (by first|exact L_slice_ro (l:=0) (h:=k) rfl sl_56 ty_60 rfl rfl rfl (by first|omega|(simp [ints_len,pairs_len,quads_len,quints_len,bools_len];omega)|(simp [ints_len,pairs_len,quads_len,quints_len,bools_len] at *;omega)) (by first|omega|(simp [ints_len,pairs_len,quads_len,quints_len,bools_len];omega)|(simp [ints_len,pairs_len,quads_len,quints_len,bools_len] at *;omega)) (by first|exact fun r hr=>(ints_row _ r hr).1|exact fun r hr=>(pairs_row _ r hr).1|exact fun r hr=>(quads_row _ r hr).1|exact fun r hr=>(quints_row _ r hr).1|exact fun r hr=>(bools_row _ r hr).1)|exact L_slice_sl (l:=0) (h:=k) rfl sl_56 ty_60 rfl (by first|rfl|assumption) (by first|assumption|exact ints_len _|exact pairs_len _|exact quads_len _|exact quints_len _|exact bools_len _|(simp [ints_len,bools_len,pairs_len,quads_len,quints_len,part_len, *];done)|(simp [ints_len,bools_len,pairs_len,quads_len,quints_len];omega)|rfl) rfl rfl (by first|omega|(simp [ints_len,pairs_len,quads_len,quints_len,bools_len];omega)|(simp [ints_len,pairs_len,quads_len,quints_len,bools_len] at *;omega)) (by first|omega|(simp [ints_len,pairs_len,quads_len,quints_len,bools_len];omega)|(simp [ints_len,pairs_len,quads_len,quints_len,bools_len] at *;omega))) (y':=.c (.ro (pairs (p.ins.take k)))) (by first|(simp [ints_cut,pairs_cut,bools_cut,ints_take,pairs_take,bools_take];done)|(simp [ints_cut,pairs_cut,bools_cut,ints_take,pairs_take,bools_take];rfl))) ?_
  refine t_old 6 rfl rfl rfl (l_field rfl fo_58_0) ?_
  refine t_light 7 rfl rfl rfl (L_load rfl (xb0 ty_56)) ?_
  refine t_old 8 rfl rfl rfl (L_move rfl) ?_
  refine t_old 9 rfl rfl rfl xb3 ?_
  refine t_old 10 rfl rfl rfl (Pure.as (by first|exact L_slice_ro (l:=(k+1)) (h:=(pairs p.ins).length) rfl sl_56 ty_60 rfl rfl rfl (by first|omega|(simp [ints_len,pairs_len,quads_len,quints_len,bools_len];omega)|(simp [ints_len,pairs_len,quads_len,quints_len,bools_len] at *;omega)) (by first|omega|(simp [ints_len,pairs_len,quads_len,quints_len,bools_len];omega)|(simp [ints_len,pairs_len,quads_len,quints_len,bools_len] at *;omega)) (by first|exact fun r hr=>(ints_row _ r hr).1|exact fun r hr=>(pairs_row _ r hr).1|exact fun r hr=>(quads_row _ r hr).1|exact fun r hr=>(quints_row _ r hr).1|exact fun r hr=>(bools_row _ r hr).1)|exact L_slice_sl (l:=(k+1)) (h:=(pairs p.ins).length) rfl sl_56 ty_60 rfl (by first|rfl|assumption) (by first|assumption|exact ints_len _|exact pairs_len _|exact quads_len _|exact quints_len _|exact bools_len _|(simp [ints_len,bools_len,pairs_len,quads_len,quints_len,part_len, *];done)|(simp [ints_len,bools_len,pairs_len,quads_len,quints_len];omega)|rfl) rfl rfl (by first|omega|(simp [ints_len,pairs_len,quads_len,quints_len,bools_len];omega)|(simp [ints_len,pairs_len,quads_len,quints_len,bools_len] at *;omega)) (by first|omega|(simp [ints_len,pairs_len,quads_len,quints_len,bools_len];omega)|(simp [ints_len,pairs_len,quads_len,quints_len,bools_len] at *;omega))) (y':=.c (.ro (pairs ((p.ins.drop (k+1)).take ((pairs p.ins).length - (k+1)))))) (by first|(simp [ints_cut,pairs_cut,bools_cut,ints_take,pairs_take,bools_take];done)|(simp [ints_cut,pairs_cut,bools_cut,ints_take,pairs_take,bools_take];rfl))) ?_
  refine t_fresh 3 [(⟨some (0,17),5,22,60⟩,_)] [(17,.any),(22,.any)] [0,5] ⟨.two rfl rfl rfl (by decide) (F_bslice rfl sl_56 ty_60) rfl rfl rfl (by decide) (f_append (news:=pairs (p.ins.take k)) (m:=((p.ins.take k)).length) rfl sl_56 ty_60 by_60 za_60 (pairs_len _)),trivial⟩ ?_
  refine fk_cons ?_
  rintro r S ⟨rfl,rfl⟩
  refine fk_nil ?_
  refine t_turn 11 rfl rfl (EOp_append (news:=pairs ((p.ins.drop (k+1)).take ((pairs p.ins).length - (k+1)))) rfl rfl (by decide) sl_56 ty_60 by_60 za_60 ⟨rfl,by decide⟩ rfl (by first|rfl|assumption) xb6 xb7 xb8 xb9 ?_)
  refine t_old 12 rfl rfl rfl (l_field rfl fo_58_0) ?_
  refine t_turn 13 rfl rfl (EOp_store rfl rfl rfl (xb1 ty_56) ?_)
  refine T_done (by kernel_rfl) ?_
  refine E_seq ?_
  refine E_seq ?_
  try rw [hct]
  refine e_tidy_A151_0 [0,1,2,3,4,6,7,8,9,16] ?_
  refine E_region' (L:=[0,1,2,3,4,5,6,7,8,9]) rfl ?_
  refine x_light rfl rfl rfl (L_load rfl (xb0 ty_27)) ?_
  refine x_light rfl rfl rfl (L_load rfl (xb0 ty_58)) ?_
  refine x_call rfl rfl rfl rfl rfl ca_109 (c_spec_IsPending c p ⟨hb.1,by omega⟩) ?_
  rintro r S ⟨rfl,rfl⟩
  refine x_pure rfl rfl rfl (L_not rfl rfl) ?_
  refine xmv ?_
  refine EOps_split 40 (b:=_) rfl (fun hg40=>?_) (fun hg40=>?_)
  ·refine x_skip rfl rfl rfl ?_
   refine x_skip rfl rfl rfl ?_
   refine x_skip rfl rfl rfl ?_
   refine x_skip rfl rfl rfl ?_
   refine x_pure rfl rfl rfl (L_pick rfl rfl) ?_
   refine EOps_nil ?_
   refine E_cond rfl (fun hc45=>?_) (fun hc45=>?_)
   ·have hf : delOk c p x = false := by
     simp [delOk,hdN]
     simp_all
    refine E_seq ?_
    refine e_tidy_A151_0 [0,1,2,3,4,6,7,8,9,16,45] ?_
    refine E_region' (L:=[0,1,2,3]) rfl ?_
    refine x_light rfl rfl rfl (L_load rfl (xb0 ty_58)) ?_
    refine x_call rfl rfl rfl rfl rfl ca_108 (c_spec_l11Copy p ⟨by omega,hb.2.2⟩) ?_
    rintro r S ⟨rfl,rfl⟩
    refine EOps_go rfl rfl (EOp_store rfl rfl rfl (xb1 ty_58) ?_)
    refine xas ?_
    refine EOps_nil ?_
    refine E_ret ?_
    rw [show delR c p x=p by rw [delR,if_neg (by rw [hf];simp)],hf]
    exact⟨_,[7,8],rfl,rfl,rfl,rfl⟩
   ·exact Bool.noConfusion (hc45:true=false)
  ·refine x_light rfl rfl rfl (L_load rfl (xb2 ty_27)) ?_
   refine x_light rfl rfl rfl (L_load rfl (xb0 ty_58)) ?_
   refine x_call rfl rfl rfl rfl rfl ca_109 (id hpd) ?_
   rintro r S ⟨rfl,rfl⟩
   refine x_pure rfl rfl rfl (L_not rfl rfl) ?_
   refine x_pure rfl rfl rfl (L_pick rfl rfl) ?_
   refine EOps_nil ?_
   refine E_cond rfl (fun hc45=>?_) (fun hc45=>?_)
   ·have hf : delOk c p x = false := by
     simp [delOk,hdN]
     simp_all
    refine E_seq ?_
    refine e_tidy_A151_0 [0,1,2,3,4,6,7,8,9,16,45] ?_
    refine E_region' (L:=[0,1,2,3]) rfl ?_
    refine x_light rfl rfl rfl (L_load rfl (xb0 ty_58)) ?_
    refine x_call rfl rfl rfl rfl rfl ca_108 (c_spec_l11Copy p ⟨by omega,hb.2.2⟩) ?_
    rintro r S ⟨rfl,rfl⟩
    refine EOps_go rfl rfl (EOp_store rfl rfl rfl (xb1 ty_58) ?_)
    refine xas ?_
    refine EOps_nil ?_
    refine E_ret ?_
    rw [show delR c p x=p by rw [delR,if_neg (by rw [hf];simp)],hf]
    exact⟨_,[7,8],rfl,rfl,rfl,rfl⟩
   ·have hf : delOk c p x = true := by
     simp [delOk,hdN]
     simp_all
    refine E_skip ?_
    refine E_seq ?_
    refine E_region' (L:=[0,1,2]) rfl ?_
    refine x_light rfl rfl rfl (L_load rfl (xb0 ty_58)) ?_
    refine EOps_go rfl rfl (EOp_store rfl rfl rfl (xb1 ty_58) ?_)
    refine xas ?_
    refine EOps_nil ?_
    refine E_ret ?_
    rw [show delR c p x=_ by rw [delR,if_pos hf,hdN],hf]
    exact⟨_,[6,4],rfl,rfl,rfl,rfl⟩
 ·have hn : insIx p.ins x < 0 := by
   have h2:¬ insIx p.ins x≥0:=of_decide_eq_false hc16
   omega
  have hdN:=delN_no hn
  have hpd:=c_spec_IsPending c ⟨p.ins,p.del++[x]⟩ ⟨hb.1,by dsimp only;omega⟩
  refine E_region' (L:=[0,1,2,3,4,5,6]) rfl ?_
  refine x_pure rfl rfl rfl (l_field rfl fo_58_1) ?_
  refine x_light rfl rfl rfl (L_load rfl (xb0 ty_24)) ?_
  refine xmv ?_
  refine EOps_go rfl rfl (Heavy.op (H_bslice_ro rfl rfl (by decide) sl_24 ty_3 za_3 ⟨rfl,by decide⟩ (by decide) rfl rfl rfl rfl ?_))
  refine EOps_go rfl rfl (EOp_append (news:=ints [x]) rfl rfl (by decide) sl_24 ty_3 by_3 za_3 ⟨rfl,by decide⟩ rfl (by first|rfl|assumption) xb6 xb7 xb8 xb9 ?_)
  refine x_pure rfl rfl rfl (l_field rfl fo_58_1) ?_
  refine EOps_go rfl rfl (EOp_store rfl rfl rfl (xb1 ty_24) ?_)
  refine EOps_nil ?_
  refine E_seq ?_
  refine E_seq ?_
  try rw [hct]
  refine e_tidy_A151_0 [0,1,2,3,4,6,7,8,9,16] ?_
  refine E_region' (L:=[0,1,2,3,4,5,6,7,8,9]) rfl ?_
  refine x_light rfl rfl rfl (L_load rfl (xb0 ty_27)) ?_
  refine x_light rfl rfl rfl (L_load rfl (xb0 ty_58)) ?_
  refine x_call rfl rfl rfl rfl rfl ca_109 (c_spec_IsPending c p ⟨hb.1,by omega⟩) ?_
  rintro r S ⟨rfl,rfl⟩
  refine x_pure rfl rfl rfl (L_not rfl rfl) ?_
  refine xmv ?_
  refine EOps_split 40 (b:=_) rfl (fun hg40=>?_) (fun hg40=>?_)
  ·refine x_skip rfl rfl rfl ?_
   refine x_skip rfl rfl rfl ?_
   refine x_skip rfl rfl rfl ?_
   refine x_skip rfl rfl rfl ?_
   refine x_pure rfl rfl rfl (L_pick rfl rfl) ?_
   refine EOps_nil ?_
   refine E_cond rfl (fun hc45=>?_) (fun hc45=>?_)
   ·have hf : delOk c p x = false := by
     simp [delOk,hdN]
     simp_all
    refine E_seq ?_
    refine e_tidy_A151_0 [0,1,2,3,4,6,7,8,9,16,45] ?_
    refine E_region' (L:=[0,1,2,3]) rfl ?_
    refine x_light rfl rfl rfl (L_load rfl (xb0 ty_58)) ?_
    refine x_call rfl rfl rfl rfl rfl ca_108 (c_spec_l11Copy p ⟨by omega,hb.2.2⟩) ?_
    rintro r S ⟨rfl,rfl⟩
    refine EOps_go rfl rfl (EOp_store rfl rfl rfl (xb1 ty_58) ?_)
    refine xas ?_
    refine EOps_nil ?_
    refine E_ret ?_
    rw [show delR c p x=p by rw [delR,if_neg (by rw [hf];simp)],hf]
    exact⟨_,[6,7],rfl,rfl,rfl,rfl⟩
   ·exact Bool.noConfusion (hc45:true=false)
  ·refine x_light rfl rfl rfl (L_load rfl (xb2 ty_27)) ?_
   refine x_light rfl rfl rfl (L_load rfl (xb0 ty_58)) ?_
   refine x_call rfl rfl rfl rfl rfl ca_109 (id hpd) ?_
   rintro r S ⟨rfl,rfl⟩
   refine x_pure rfl rfl rfl (L_not rfl rfl) ?_
   refine x_pure rfl rfl rfl (L_pick rfl rfl) ?_
   refine EOps_nil ?_
   refine E_cond rfl (fun hc45=>?_) (fun hc45=>?_)
   ·have hf : delOk c p x = false := by
     simp [delOk,hdN]
     simp_all
    refine E_seq ?_
    refine e_tidy_A151_0 [0,1,2,3,4,6,7,8,9,16,45] ?_
    refine E_region' (L:=[0,1,2,3]) rfl ?_
    refine x_light rfl rfl rfl (L_load rfl (xb0 ty_58)) ?_
    refine x_call rfl rfl rfl rfl rfl ca_108 (c_spec_l11Copy p ⟨by omega,hb.2.2⟩) ?_
    rintro r S ⟨rfl,rfl⟩
    refine EOps_go rfl rfl (EOp_store rfl rfl rfl (xb1 ty_58) ?_)
    refine xas ?_
    refine EOps_nil ?_
    refine E_ret ?_
    rw [show delR c p x=p by rw [delR,if_neg (by rw [hf];simp)],hf]
    exact⟨_,[6,7],rfl,rfl,rfl,rfl⟩
   ·have hf : delOk c p x = true := by
     simp [delOk,hdN]
     simp_all
    refine E_skip ?_
    refine E_seq ?_
    refine E_region' (L:=[0,1,2]) rfl ?_
    refine x_light rfl rfl rfl (L_load rfl (xb0 ty_58)) ?_
    refine EOps_go rfl rfl (EOp_store rfl rfl rfl (xb1 ty_58) ?_)
    refine xas ?_
    refine EOps_nil ?_
    refine E_ret ?_
    rw [show delR c p x=_ by rw [delR,if_pos hf,hdN],hf]
    exact⟨_,[3,4],rfl,rfl,rfl,rfl⟩

end Go.Proofs.Ytcepgfcolmdnoaa.E
