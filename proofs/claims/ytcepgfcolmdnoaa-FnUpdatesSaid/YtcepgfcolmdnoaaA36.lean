/- Walks through functions, by program out of the session's annotations. -/
import Derived.Test.YtcepgfcolmdnoaaA35
namespace Go.Proofs.Ytcepgfcolmdnoaa.E
open Go Go.RowKit Go.Proofs
set_option linter.unusedVariables false
set_option linter.unusedSimpArgs false

theorem partS_lt {vs:List Int} {v:Int} {i e:Nat} {acc:List (Int × Int)} (h:i<e+1) (h1:vs.getD i 0<v):partS vs v i (e+1) acc=partS vs v (i+1) (e+1) acc:=by rw [partS,dif_pos h,if_pos h1]
theorem partS_ge {vs:List Int} {v:Int} {i e:Nat} {acc:List (Int × Int)} (h:i<e+1) (h1:¬ vs.getD i 0<v) (h2:v≤vs.getD e 0):partS vs v i (e+1) acc=partS vs v i e acc:=by rw [partS,dif_pos h,if_neg h1,Nat.add_sub_cancel,if_pos h2]
theorem partS_sw {vs:List Int} {v:Int} {i e:Nat} {acc:List (Int × Int)} (h:i<e+1) (h1:¬ vs.getD i 0<v) (h2:¬ v≤vs.getD e 0):partS vs v i (e+1) acc=partS vs v (i+1) e (acc++[((i:Int),(e:Int))]):=by rw [partS,dif_pos h,if_neg h1,Nat.add_sub_cancel,if_neg h2]
theorem partS_end {vs:List Int} {v:Int} {i e:Nat} {acc:List (Int × Int)} (h:¬ i<e):partS vs v i e acc=(acc,(i:Int)):=by rw [partS,dif_neg h]
def prtT (sw:List (Int × Int) × Int):AV:=.tup [(false,[.sl 0 0 sw.1.length sw.1.length]),(false,[.sc (.int .i64 sw.2)])]
theorem getD_x {l:List Int} {i:Nat} {x:Int} (h:l[i]? = some x):l.getD i 0=x:=by simp [List.getD_eq_getElem?_getD,h]
set_option maxRecDepth 20000 in
set_option maxHeartbeats 2000000 in
theorem c_spec_Partition (xs : List Int) (a e : Nat) (v : Int) (hae : a ≤ e) (hex : e ≤ xs.length) (hb : xs.length ≤ 1048576) : EFn Try.prog 87 [.c (.ro (ints xs)), .c (.sc (.int .i64 (a : Int))), .c (.sc (.int .i64 (e : Int))), .c (.sc (.int .i64 v))] [] (fun r S => r = prtT (partS xs v a e []) ∧ S = [.row 119 2 (pairs (partS xs v a e []).1)]) := by
 refine E_fn Try.func87 rfl (Nat.le_of_ble_eq_true rfl) ?_
 refine E_seq ?_
 refine E_region' (L:=[0,1]) rfl ?_
 refine xas ?_
 refine xas ?_
 refine EOps_nil ?_
 refine E_seq ?_
 refine E_region' (L:=[0,1]) rfl ?_
 refine EOps_go rfl rfl (Heavy.op (H_bslice rfl rfl (by decide) sl_35 ty_119 za_119 ⟨rfl,by decide⟩ (by decide) rfl rfl rfl rfl ?_))
 refine xas ?_
 refine EOps_nil ?_
 refine E_seq ?_
 refine E_seq ?_
 refine e_tidy [0,1,2,3,8,9,10] ?_ (hb:=by simp only [E.keepOf,E.get,E.ev,E.cv,E.fill',E.fill,E.slotsOf,Res.sh,AC.sh,AC.sh.shs,AV.sh,E.splice,List.map_cons,List.map_nil,List.cons_append,List.nil_append,List.append_nil,List.length_cons,List.length_nil,List.take_zero,List.drop_zero,List.take_succ_cons,List.drop_succ_cons,List.drop_nil,List.take_nil,List.set_cons_zero,List.set_cons_succ,Nat.zero_add,Nat.add_zero,Nat.reduceAdd,Nat.reduceSub,reduceIte,Nat.reduceEqDiff,E.back,E.backR,E.ix,Res.un,AC.un,AC.un.uns,AV.un,E.un,Option.map_some,Option.map_none,Option.getD_some,List.getElem?_cons_zero,List.getElem?_cons_succ,List.getElem?_nil,pairs_app,pairs_lenApp];rfl) (hR:=by (try simp only [E.keepOf,E.get,E.ev,E.cv,E.fill',E.fill,E.slotsOf,Res.sh,AC.sh,AC.sh.shs,AV.sh,E.splice,List.map_cons,List.map_nil,List.cons_append,List.nil_append,List.append_nil,List.length_cons,List.length_nil,List.take_zero,List.drop_zero,List.take_succ_cons,List.drop_succ_cons,List.drop_nil,List.take_nil,List.set_cons_zero,List.set_cons_succ,Nat.zero_add,Nat.add_zero,Nat.reduceAdd,Nat.reduceSub,reduceIte,Nat.reduceEqDiff,E.back,E.backR,E.ix,Res.un,AC.un,AC.un.uns,AV.un,E.un,Option.map_some,Option.map_none,Option.getD_some,List.getElem?_cons_zero,List.getElem?_cons_succ,List.getElem?_nil,pairs_app,pairs_lenApp]);rfl)
 refine E_region' (L:=[0,1,2,3,4,5,6,7,8,9]) rfl ?_
 refine xmv ?_
 refine xmv ?_
 refine x_call rfl rfl rfl rfl rfl ca_81 (c_spec_l1In a 0 e) ?_
 rintro r S ⟨rfl,rfl⟩
 refine x_pure rfl rfl rfl (L_not rfl rfl) ?_
 refine xmv ?_
 refine EOps_split 18 (b:=_) rfl (fun hg18=>?_) (fun hg18=>?_)
 ·simp [isIn] at hg18;omega
 ·refine xmv ?_
  refine xmv ?_
  refine x_pure rfl rfl rfl (l_len rfl sl_24) ?_
  refine x_pure rfl rfl rfl (L_bin rfl rfl rfl rfl) ?_
  refine x_pure rfl rfl rfl (L_pick rfl rfl) ?_
  refine EOps_nil ?_
  refine E_cond rfl (fun hc23=>?_) (fun hc23=>?_)
  ·simp [ints_len] at hc23;omega
  ·refine E_skip ?_
   refine E_seq ?_
   refine E_region' (L:=[0,1]) rfl ?_
   refine xmv ?_
   refine xas ?_
   refine EOps_nil ?_
   refine E_seq ?_
   refine E_region' (L:=[0,1,2]) rfl ?_
   refine xmv ?_
   refine x_pure rfl rfl rfl xb4 ?_
   refine xas ?_
   refine EOps_nil ?_
   refine E_seq ?_
   refine E_block ?_
   refine e_for (α:=Nat × Nat × List (Int × Int)) [0,1,2,3,8,9,23] (fun (i,e',acc)=>[(11,.c (.sc (.int .i64 (i)))),(12,.c (.sc (.int .i64 (((e':Int) - 1))))),(10,.c (.sl 0 0 acc.length acc.length))]) (fun (i,e',acc)=>[.row 119 2 (pairs acc)]) (fun (i,e',acc)=>i≤e'∧e'≤xs.length∧acc.length+(e' - i)≤1048576∧partS xs v i e' acc=partS xs v a e []) (fun (i,e',acc)=>e' - i) ((a,e,[])) ?_ (rfl) ⟨.inr rfl,.inr rfl,.inr rfl,trivial⟩ ?_ (hb:=by simp only [E.keepOf,E.get,E.ev,E.cv,E.fill',E.fill,E.slotsOf,Res.sh,AC.sh,AC.sh.shs,AV.sh,E.splice,List.map_cons,List.map_nil,List.cons_append,List.nil_append,List.append_nil,List.length_cons,List.length_nil,List.take_zero,List.drop_zero,List.take_succ_cons,List.drop_succ_cons,List.drop_nil,List.take_nil,List.set_cons_zero,List.set_cons_succ,Nat.zero_add,Nat.add_zero,Nat.reduceAdd,Nat.reduceSub,reduceIte,Nat.reduceEqDiff,E.back,E.backR,E.ix,Res.un,AC.un,AC.un.uns,AV.un,E.un,Option.map_some,Option.map_none,Option.getD_some,List.getElem?_cons_zero,List.getElem?_cons_succ,List.getElem?_nil,pairs_app,pairs_lenApp];rfl)
   ·exact⟨hae,hex,by simp;omega,rfl⟩
   rintro⟨i,e',acc⟩ ⟨hie,hel,hac,hres⟩
   dsimp only
   have hpl:(pairs acc).length=acc.length:=pairs_len _
   refine E_seq ?_
   refine E_seq ?_
   refine E_region' (L:=[0,1,2]) rfl ?_
   refine xmv ?_
   refine xmv ?_
   refine x_pure rfl rfl rfl (L_bin rfl rfl rfl rfl) ?_
   refine EOps_nil ?_
   refine E_cond rfl (fun hc30=>?_) (fun hc30=>?_)
   ·have hlt : i < e' := by simp at hc30; omega
    obtain⟨e1,rfl⟩:∃ e1,e'=e1+1:=⟨e' - 1,by omega⟩
    rw [show ((e1+1:Nat):Int) - 1=(e1:Int) by omega]
    obtain⟨x,hx⟩:=at_lt (l:=xs) (k:=i) (by omega)
    obtain⟨y,hy⟩:=at_lt (l:=xs) (k:=e1) (by omega)
    have hxd:=getD_x hx
    have hyd:=getD_x hy
    refine E_skip ?_
    refine E_block ?_
    refine E_block ?_
    refine E_seq ?_
    refine E_region' (L:=[0,1,2,3,4,5,6]) rfl ?_
    refine xmv ?_
    refine xmv ?_
    refine x_pure rfl rfl rfl (L_index rfl rfl (by first|exact i_ro sl_24 ty_3|exact i_sl sl_24 ty_3)) ?_
    refine x_light rfl rfl rfl (L_load rfl (xb0 ty_3)) ?_
    refine xmv ?_
    refine x_pure rfl rfl rfl (L_bin rfl rfl rfl rfl) ?_
    refine xas ?_
    refine EOps_nil ?_
    refine E_cond rfl (fun hc41=>?_) (fun hc41=>?_)
    ·have h1 : x < v := by simpa using hc41
     have hst:=partS_lt (acc:=acc) hlt (by rw [hxd];exact h1)
     refine E_region' (L:=[0,1,2]) rfl ?_
     refine xmv ?_
     refine x_pure rfl rfl rfl xb3 ?_
     refine xas ?_
     refine EOps_nil ?_
     refine⟨(i+1,e1+1,acc),?_,?_,by first|rfl|(simp only [pairs_app];rfl)|(simp [pairs];done),⟨.inr (int_eq (by first|rfl|omega|(dsimp only;done)|(dsimp only;omega)|(simp [pairs_len];done))),.inr (int_eq (by first|rfl|omega|(dsimp only;done)|(dsimp only;omega)|(simp [pairs_len];done))),.inr ((by first|rfl|exact sl_eq (by simp [pairs_len]))),trivial⟩,⟨.inr rfl,.inr rfl,.inr rfl,.inr rfl,.inr rfl,.inr rfl,.inr rfl,trivial⟩⟩
     ·first|omega|(dsimp only;omega)|(simp;omega)
     ·exact⟨by first|omega|(dsimp only;done)|(dsimp only;omega)|(simp;omega),by first|omega|(dsimp only;done)|(dsimp only;omega)|(simp;omega),by first|omega|(dsimp only;done)|(dsimp only;omega)|(simp;omega),hst.symm.trans hres⟩
    ·have h1 : ¬ x < v := by simpa using hc41
     refine E_seq ?_
     refine E_region' (L:=[0,1,2,3,4,5,6]) rfl ?_
     refine xmv ?_
     refine xmv ?_
     refine x_pure rfl rfl rfl (L_index rfl rfl (by first|exact i_ro sl_24 ty_3|exact i_sl sl_24 ty_3)) ?_
     refine x_light rfl rfl rfl (L_load rfl (xb0 ty_3)) ?_
     refine xmv ?_
     refine x_pure rfl rfl rfl (L_bin rfl rfl rfl rfl) ?_
     refine xas ?_
     refine EOps_nil ?_
     refine E_cond rfl (fun hc50=>?_) (fun hc50=>?_)
     ·have h2 : v ≤ y := by simpa using hc50
      have hst:=partS_ge (acc:=acc) hlt (by rw [hxd];exact h1) (by rw [hyd];exact h2)
      refine E_region' (L:=[0,1,2]) rfl ?_
      refine xmv ?_
      refine x_pure rfl rfl rfl xb4 ?_
      refine xas ?_
      refine EOps_nil ?_
      refine⟨(i,e1,acc),?_,?_,by first|rfl|(simp only [pairs_app];rfl)|(simp [pairs];done),⟨.inr (int_eq (by first|rfl|omega|(dsimp only;done)|(dsimp only;omega)|(simp [pairs_len];done))),.inr (int_eq (by first|rfl|omega|(dsimp only;done)|(dsimp only;omega)|(simp [pairs_len];done))),.inr ((by first|rfl|exact sl_eq (by simp [pairs_len]))),trivial⟩,⟨.inr rfl,.inr rfl,.inr rfl,.inr rfl,.inr rfl,.inr rfl,.inr rfl,trivial⟩⟩
      ·first|omega|(dsimp only;omega)|(simp;omega)
      ·exact⟨by first|omega|(dsimp only;done)|(dsimp only;omega)|(simp;omega),by first|omega|(dsimp only;done)|(dsimp only;omega)|(simp;omega),by first|omega|(dsimp only;done)|(dsimp only;omega)|(simp;omega),hst.symm.trans hres⟩
     ·have h2 : ¬ v ≤ y := by simpa using hc50
      have hst:=partS_sw (acc:=acc) hlt (by rw [hxd];exact h1) (by rw [hyd];exact h2)
      have hne:i ≠ e1:=fun h=>by subst h;rw [hx] at hy;cases hy;omega
      refine E_seq ?_
      refine E_region' (L:=[0,1,2,3,4,5,6]) rfl ?_
      refine xmv ?_
      refine xmv ?_
      refine xmv ?_
      refine x_pure rfl rfl rfl (L_build rfl bd_119 rfl rfl) ?_
      refine EOps_go rfl rfl (Heavy.op (H_bslice_ro rfl rfl (by decide) sl_35 ty_119 za_119 ⟨rfl,by decide⟩ (by decide) rfl rfl rfl rfl ?_))
      refine EOps_go rfl rfl (EOp_append (news:=pairs [((i:Int),(e1:Int))]) rfl rfl (by decide) sl_35 ty_119 by_119 za_119 ⟨rfl,by decide⟩ rfl (by first|rfl|assumption) xb6 xb7 xb8 xb9 ?_)
      refine xas ?_
      refine EOps_nil ?_
      refine E_seq ?_
      refine E_region' (L:=[0,1,2]) rfl ?_
      refine xmv ?_
      refine x_pure rfl rfl rfl xb3 ?_
      refine xas ?_
      refine EOps_nil ?_
      refine E_region' (L:=[0,1,2]) rfl ?_
      refine xmv ?_
      refine x_pure rfl rfl rfl xb4 ?_
      refine xas ?_
      refine EOps_nil ?_
      refine⟨(i+1,e1,acc++[((i:Int),(e1:Int))]),?_,?_,by first|rfl|(simp only [pairs_app];rfl)|(simp [pairs];done),⟨.inr (int_eq (by first|rfl|omega|(dsimp only;done)|(dsimp only;omega)|(simp [pairs_len];done))),.inr (int_eq (by first|rfl|omega|(dsimp only;done)|(dsimp only;omega)|(simp [pairs_len];done))),.inr ((by first|rfl|exact sl_eq (by simp [pairs_len]))),trivial⟩,⟨.inr rfl,.inr rfl,.inr rfl,.inr rfl,.inr rfl,.inr rfl,.inr rfl,trivial⟩⟩
      ·first|omega|(dsimp only;omega)|(simp;omega)
      ·exact⟨by first|omega|(dsimp only;done)|(dsimp only;omega)|(simp;omega),by first|omega|(dsimp only;done)|(dsimp only;omega)|(simp;omega),by first|omega|(dsimp only;done)|(dsimp only;omega)|(simp;omega),hst.symm.trans hres⟩
   ·have hge : ¬ i < e' := by simp at hc30; omega
    rw [partS_end hge] at hres
    refine E_exit ?_
    refine E_seq ?_
    refine E_region' (L:=[0,1,2,3]) rfl ?_
    refine xmv ?_
    refine xmv ?_
    refine xas ?_
    refine xas ?_
    refine EOps_nil ?_
    refine E_ret ?_
    exact⟨_,[0],rfl,rfl,by rw [← hres];rfl,by rw [← hres];rfl⟩

end Go.Proofs.Ytcepgfcolmdnoaa.E
