/- Walks through functions, by program out of the session's annotations. -/
import Derived.Test.YtjbbjicochipeaaGreatA193
import Derived.Test.YtjbbjicochipeaaGreatA195
import Derived.Test.YtjbbjicochipeaaGreatA190
import Derived.Test.YtjbbjicochipeaaGreatA45
import Derived.Test.YtjbbjicochipeaaGreatF3
import Derived.Test.YtjbbjicochipeaaGreatF4
namespace Go.Proofs.YtjbbjicochipeaaGreat.E
open Go Go.RowKit Go.Proofs
set_option linter.unusedVariables false
set_option linter.unusedSimpArgs false

theorem nest_getT {ls : List (List Int)} {k : Nat} {l : List Int} (h : ls[k]? = some l) : (nest ls)[k]? = some [.sl (ints l)] := by
 rw [nest,List.getElem?_map,h];rfl
theorem scN_at {xs:List Int} {r:Int × Int} {k:Nat} {x:Int} (hx:xs[k]? = some x):scN xs r (k+1)=if inR r x=true then scN xs r k++[(k:Int)] else scN xs r k:=by rw [scN,getD_of hx]
structure TopA (xs : List Int) (s : Sett) (rs : List (Int × Int)) (C : Crk) (L : List (List Int)) (K : List Int) (G : List Qn) : Prop where
 cl:C.vals.length≤1048576∧C.rows.length≤1048576∧C.piv.length≤1048576
 ll:L.length≤rs.length
 an:∀ i,i<L.length→L[i]? = some (scN xs (rs.getD i (0,0)) xs.length)
 kl:K.length≤1000
 kb:∀ x ∈ K,0≤x∧x≤2000000
 gl:G.length≤1000000
 kq:K.length ≠ 0→areQ xs s rs=true∧repC xs G=C∧repK xs G=true∧isCrk C=true∧prL C=prL (newCrk xs)∧totW G=sumI K∧okL G 1000000∧sumI K≤swB xs.length s rs.length∧iwB xs s rs=true
theorem top_all {xs : List Int} {s : Sett} {rs : List (Int × Int)} : TopA xs s rs (rqC xs s rs) (rqL xs s rs) (rqK xs s rs) (ledL xs s rs) := by
 have hkb:=rqK_bd (xs:=xs) (s:=s) (rs:=rs)
 cases hq:areQ xs s rs
 ·have eC : rqC xs s rs = ⟨[], [], []⟩ := by rw [rqC, hq]; rfl
  have eL:rqL xs s rs=[]:=by rw [rqL,hq];rfl
  have eK:rqK xs s rs=[]:=by rw [rqK,hq];rfl
  have eG:ledL xs s rs=[]:=by rw [ledL,hq];rfl
  rw [eC,eL,eK,eG]
  exact⟨by simp,by simp,fun i hi=>by simp at hi,by simp,by simp,by simp,fun h=>absurd rfl h⟩
 have ht := top_ok hq
 have hc:=crk_lens ht.oc
 obtain⟨q1,q2,q3,q4⟩:=areQ_parts hq
 have hb:=rq_sw hq
 have hg : okL (ledL xs s rs) 1000000 := by
  rw [ledL,if_pos hq]
  exact okL_mono (ld_ok q1 q2 q4 rs.length (Nat.le_refl _)).ol (by omega)
 exact⟨by omega,by rw [ht.ll];exact Nat.le_refl _,fun i hi=>ht.an i (by rw [ht.ll] at hi;exact hi),hkb.1,hkb.2,hg.1,fun _=>⟨hq,ht.rp.1,ht.rp.2,ht.oc,ht.pr,ht.tt,hg,hb,by simp [iwB,hq,hb]⟩⟩

theorem g_for_A196_2 {P : Program} {N n : Nat} {s : Slots} {R : List Res} {Q : Exit → Slots → List Res → Prop} {α : Type} {c : Code} (keep : List Nat) (mods : α → Slots) (Rf : α → List Res) (I : α → Prop) (m : α → Nat) (x0 : α) {base : Slots} (h0 : I x0) (hR : R = Rf x0) (h1 : chk s (mods x0))
  (round:∀ x,I x→GCode P N n c (mods x++base) (Rf x) (EThen (fun s' R'=>∃ y,m y<m x∧I y∧R'=Rf y∧chk s' (mods y)∧chk s' base) Q)) (hb:keepOf s keep=base:=by simp only [E.keepOf,E.get,E.ev,E.cv,E.fill',E.fill,E.slotsOf,Res.sh,AC.sh,AC.sh.shs,AV.sh,E.splice,List.map_cons,List.map_nil,List.cons_append,List.nil_append,List.append_nil,List.length_cons,List.length_nil,List.take_zero,List.drop_zero,List.take_succ_cons,List.drop_succ_cons,List.drop_nil,List.take_nil,List.set_cons_zero,List.set_cons_succ,Nat.zero_add,Nat.add_zero,Nat.reduceAdd,Nat.reduceSub,reduceIte,Nat.reduceEqDiff,E.back,E.backR,E.ix,Res.un,AC.un,AC.un.uns,AV.un,E.un,Option.map_some,Option.map_none,Option.getD_some,List.getElem?_cons_zero,List.getElem?_cons_succ,List.getElem?_nil,crkR,crkO];rfl):GCode P N n (.loop c) s R Q:=G_for keep mods Rf I m x0 hb h0 hR h1 round

set_option maxRecDepth 20000 in
set_option maxHeartbeats 2000000 in
theorem c_spec_ScanRange (xs : List Int) (r : Int × Int) (hx : xs.length ≤ 1048576) : EFn Tryz.prog 19 [.c (.ro (ints xs)), .agg [.sc (.int .i64 r.1), .sc (.int .i64 r.2)]] [] (fun y S => y = .c (.sl 0 0 (scN xs r xs.length).length (scN xs r xs.length).length) ∧ S = [.row 3 1 (ints (scN xs r xs.length))]) := by
 refine E_fn Tryz.func19 rfl (Nat.le_of_ble_eq_true rfl) ?_
 refine E_seq ?_
 refine E_region' (L:=[0,1]) rfl ?_
 refine x_box rfl rfl rfl rfl rfl ?_
 refine xas ?_
 refine EOps_nil ?_
 refine E_seq ?_
 refine E_region' (L:=[0,1]) rfl ?_
 refine EOps_go rfl rfl (Heavy.op (H_bslice rfl rfl (by decide) sl_22 ty_3 za_3 ⟨rfl,by decide⟩ (by decide) rfl rfl rfl rfl ?_))
 refine xas ?_
 refine EOps_nil ?_
 refine E_seq ?_
 refine E_seq ?_
 refine E_region' (L:=[0]) rfl ?_
 refine xas ?_
 refine EOps_nil ?_
 refine E_block ?_
 refine e_for (α:=Nat) [0,1,3,4] (fun k=>[(6,.c (.sc (.int .i64 ((k:Int))))),(5,.c (.sl 1 0 (scN xs r k).length (scN xs r k).length))]) (fun k=>[.box [.sc (.int .i64 r.1),.sc (.int .i64 r.2)],.row 3 1 (ints (scN xs r k))]) (fun k=>k≤xs.length) (fun k=>xs.length - k) (0) ?_ (rfl) ⟨.inr rfl,.inr rfl,trivial⟩ ?_
 ·simp
 rintro k hk
 have hpl:=scN_len xs r k
 refine E_seq ?_
 refine E_seq ?_
 refine E_region' (L:=[0,1,2,3]) rfl ?_
 refine xmv ?_
 refine xmv ?_
 refine p_ rfl (l_len rfl sl_22) ?_
 refine p_ rfl (L_bin rfl rfl rfl rfl) ?_
 refine EOps_nil ?_
 refine E_cond rfl (fun hc11=>?_) (fun hc11=>?_)
 ·have hc11' : k < (xs).length := by simpa [ints_len, bools_len, pairs_len, quads_len, quints_len] using hc11
  obtain⟨x,hx1⟩:∃ x,(xs)[k]? = some x:=⟨_,List.getElem?_eq_getElem hc11'⟩
  have hst0:=scN_at (r:=r) hx1
  refine E_skip ?_
  refine E_seq ?_
  refine E_block ?_
  refine E_seq ?_
  refine e_tidy [0,1,3,4,5,6,11,19] ?_
  refine E_drawT mixed ?_
  refine tl_ 0 rfl (L_load rfl (xb0 ty_49)) ?_
  refine tj_ 1 rfl (L_move rfl) ?_
  refine tj_ 2 rfl (L_move rfl) ?_
  refine tj_ 3 rfl (L_index rfl rfl (xii sl_22 ty_3)) ?_
  refine tl_ 4 rfl (L_load rfl (xb0 ty_3)) ?_
  refine t_call 5 rfl rfl rfl rfl rfl ca_43 (c_spec_InRange r x) ?_
  rintro r S ⟨rfl,rfl⟩
  refine T_done (by kernel_rfl) ?_
  refine E_cond rfl (fun hc19=>?_) (fun hc19=>?_)
  ·have hst : scN xs r (k + 1) = scN xs r k ++ [(k : Int)] := by rw [hst0, if_pos hc19]
   refine E_region' (L:=[0,1,2,3,4]) rfl ?_
   refine xmv ?_
   refine xmv ?_
   refine EOps_go rfl rfl (Heavy.op (H_bslice_ro rfl rfl (by decide) sl_22 ty_3 za_3 ⟨rfl,by decide⟩ (by decide) rfl rfl rfl rfl ?_))
   refine EOps_go rfl rfl (EOp_append (news:=ints [(k:Int)]) rfl rfl (by decide) sl_22 ty_3 by_3 za_3 ⟨rfl,by decide⟩ rfl (by first|rfl|assumption) xb7 xb8 xb9 xb10 ?_)
   refine xas ?_
   refine EOps_nil ?_
   refine E_region' (L:=[0,1,2]) rfl ?_
   refine xmv ?_
   refine p_ rfl xb3 ?_
   refine xas ?_
   refine EOps_nil ?_
   refine⟨k+1,?_,?_,(by rw [hst];first|rfl|(rw [← ints_app];rfl)),⟨.inr rfl,.inr ((by rw [hst];first|rfl|(rw [← ints_lenApp];rfl))),trivial⟩,⟨.inr rfl,.inr rfl,.inr rfl,.inr rfl,trivial⟩⟩
   ·first|omega|(dsimp only;omega)|(simp;omega)
   first|trivial|omega|(dsimp only;omega)|(simp;omega)
  have hst : scN xs r (k + 1) = scN xs r k := by rw [hst0, if_neg (by simp [hc19])]
  refine E_skip ?_
  refine E_region' (L:=[0,1,2]) rfl ?_
  refine xmv ?_
  refine p_ rfl xb3 ?_
  refine xas ?_
  refine EOps_nil ?_
  refine⟨k+1,?_,?_,(by rw [hst];first|rfl|(rw [← ints_app];rfl)),⟨.inr rfl,.inr ((by rw [hst];first|rfl|(rw [← ints_lenApp];rfl))),trivial⟩,⟨.inr rfl,.inr rfl,.inr rfl,.inr rfl,trivial⟩⟩
  ·first|omega|(dsimp only;omega)|(simp;omega)
  first|trivial|omega|(dsimp only;omega)|(simp;omega)
 have hk2 : xs.length ≤ k := by simpa [ints_len] using hc11
 have hke:k=xs.length:=by omega
 subst hke
 refine E_exit ?_
 refine E_seq ?_
 refine E_region' (L:=[0,1]) rfl ?_
 refine xmv ?_
 refine xas ?_
 refine EOps_nil ?_
 refine E_ret ?_
 exact⟨_,[1],rfl,rfl,rfl,rfl⟩

set_option maxRecDepth 20000 in
set_option maxHeartbeats 2000000 in
theorem c_impl_TotalSwaps (l : List Qn) (n : Nat) (h : okL l n) (hn : n ≤ 1000000) : EFn Tryz.prog 25 [.c (.ro (quints l))] [] (fun r S => r = .c (.sc (.int .i64 (totW l))) ∧ S = []) := by
 refine E_fn Tryz.func25 rfl (Nat.le_of_ble_eq_true rfl) ?_
 refine E_G (n:=0) rfl ?_
 have hl:=h.1
 refine G_seq ?_
 refine G_region' (L:=[0]) rfl ?_
 refine xas ?_
 refine EOps_nil ?_
 refine G_seq ?_
 refine G_region' (L:=[0]) rfl ?_
 refine xas ?_
 refine EOps_nil ?_
 refine G_seq ?_
 refine G_seq ?_
 refine G_region' (L:=[0,1,2]) rfl ?_
 refine xmv ?_
 refine p_ rfl (l_len rfl sl_50) ?_
 refine xmv ?_
 refine EOps_nil ?_
 refine G_block ?_
 refine g_forD (α:=Nat) [0,2,6,7] (fun k=>[(8,.c (.sc (.int .i64 (k)))),(3,.c (.sc (.int .i64 ((totW (l.take k)))))),(5,.any)]) (fun k=>[]) (fun k=>k≤l.length) (fun k=>l.length - k) (0) ?_ (rfl) ⟨.inr rfl,.inr (int_eq (by simp [totW])),.inl rfl,trivial⟩ ?_
 ·simp
 rintro k hk
 refine G_seq ?_
 refine G_region' (L:=[0]) rfl ?_
 refine p_ rfl (L_bin rfl rfl rfl rfl) ?_
 refine EOps_nil ?_
 refine G_seq ?_
 refine G_cond rfl (fun hc9=>?_) (fun hc9=>?_)
 ·have hc9' : k < (l).length := by simpa [ints_len, bools_len, pairs_len, quads_len, quints_len] using hc9
  obtain⟨x,hx⟩:∃ x,(l)[k]? = some x:=⟨_,List.getElem?_eq_getElem hc9'⟩
  have h1:=okL_tot (okL_take h k)
  have h2:=h.2 x (List.mem_of_getElem? hx)
  have h3:(l.take k).length≤1000000:=by rw [List.length_take];omega
  refine G_skip ?_
  refine G_seq ?_
  refine G_block ?_
  refine G_seq ?_
  refine G_region' (L:=[0,1,2,3]) rfl ?_
  refine p_ rfl (L_index rfl rfl (xii sl_50 ty_76)) ?_
  refine l_ rfl (L_load rfl (xb0 ty_76)) ?_
  refine x_alloc rfl rfl rfl rfl za_76 ?_
  refine EOps_go rfl rfl (EOp_store rfl rfl rfl (xb1 ty_76) ?_)
  refine EOps_nil ?_
  refine G_region' (L:=[0,1,2,3,4]) rfl ?_
  refine xmv ?_
  refine p_ rfl (l_field rfl fo_76_4) ?_
  refine l_ rfl (L_load rfl (xb0 ty_3)) ?_
  refine p_ rfl xb3 ?_
  refine xas ?_
  refine EOps_nil ?_
  refine G_region' (L:=[0,1]) rfl ?_
  refine p_ rfl xb3 ?_
  refine xmv ?_
  refine EOps_nil ?_
  refine⟨[],rfl,k+1,?_,?_,rfl,⟨.inr rfl,.inr (int_eq (totW_step hx).symm),.inl rfl,trivial⟩,⟨.inr rfl,.inr rfl,.inr rfl,.inr rfl,trivial⟩⟩
  ·first|omega|(dsimp only;omega)|(simp;omega)
  first|trivial|omega|(dsimp only;omega)|(simp;omega)
 have hk' : l.length ≤ k := by simpa [quints_len] using hc9
 rw [List.take_of_length_le hk']
 refine G_exit ?_
 refine G_seq ?_
 refine G_region' (L:=[0,1]) rfl ?_
 refine xmv ?_
 refine xas ?_
 refine EOps_nil ?_
 refine G_ret ?_
 exact⟨_,[],rfl,rfl,rfl,rfl⟩

set_option maxRecDepth 20000 in
set_option maxHeartbeats 8000000 in
theorem c_laws_FnTop (l : List Int) (hb0 : ∀ x ∈ l, 0 ≤ x ∧ x ≤ 255) : EFn Tryz.prog 4 [.c (.ro (bytes l))] [] (fun r S => r = .c (.sc (.bool true)) ∧ S = []) := by
 refine E_fn Tryz.func4 rfl (Nat.le_of_ble_eq_true rfl) ?_
 refine E_G (n:=0) rfl ?_
 refine G_seq ?_
 refine G_region' (L:=[0]) rfl ?_
 refine xas ?_
 refine EOps_nil ?_
 refine G_seq ?_
 refine G_seq ?_
 refine g_tidy_A37_0 [0,2] ?_
 refine G_region' (L:=[0,1]) rfl ?_
 refine xmv ?_
 refine x_call rfl rfl rfl rfl rfl ca_13 (c_laws_big l) ?_
 rintro r S ⟨rfl,rfl⟩
 refine EOps_nil ?_
 refine G_cond rfl (fun hc19=>?_) (fun hc19=>?_)
 ·refine G_seq ?_
  refine G_region' (L:=[0]) rfl ?_
  refine xas ?_
  refine EOps_nil ?_
  refine G_ret ?_
  exact⟨_,[],rfl,rfl,rfl,rfl⟩
 have hb : byL l := ⟨hb0, by simp at hc19; omega⟩
 refine G_skip ?_
 refine G_seq ?_
 refine g_tidy_A37_0 [0,2,19] ?_
 refine G_region' (L:=[0,1,2,3,4,5,6,7,8,9]) rfl ?_
 refine xmv ?_
 refine x_call rfl rfl rfl rfl rfl ca_14 (c_spec_DrawRunQueries l hb) ?_ (hq:=by rintro r S ⟨_,_,_,⟨rfl,rfl⟩,_,_⟩;exact⟨rfl,rfl⟩)
 rintro r S ⟨xs,s,rs,⟨rfl,rfl⟩,hxs,hrs⟩
 have hall:=top_all (xs:=xs) (s:=s) (rs:=rs)
 have hsp:=c_spec_RunQueries xs s rs (by omega)
 have him:=c_impl_RunQueries xs s rs
 have hlg:=c_impl_LedgerOf xs s rs
 generalize rqC xs s rs=C at *
 generalize rqL xs s rs=L at *
 generalize rqK xs s rs=K at *
 generalize ledL xs s rs=G at *
 obtain⟨hcl,hll,han,hkl,hkb,hgl,hkq⟩:=hall
 have hnl:=nest_len L
 refine xmv ?_
 refine p_ rfl (L_extract rfl rfl) ?_
 refine p_ rfl (L_extract rfl rfl) ?_
 refine p_ rfl (L_extract rfl rfl) ?_
 refine x_alloc rfl rfl rfl rfl za_29 ?_
 refine xas ?_
 refine EOps_go rfl rfl (EOp_store rfl rfl rfl (xb1 ty_29) ?_)
 refine xas ?_
 refine EOps_nil ?_
 refine G_seq ?_
 refine g_tidy_A37_0 [0,2,3,4,5,19] ?_
 refine G_region' (L:=[0,1,2,3,4,5,6,7,8,9,10,11]) rfl ?_
 refine xmv ?_
 refine l_ rfl (L_load rfl (xb0 ty_29)) ?_
 refine xmv ?_
 refine x_call rfl rfl rfl rfl rfl ca_15 (him) ?_
 rintro r S ⟨rfl,rfl⟩
 refine xmv ?_
 refine p_ rfl (L_extract rfl rfl) ?_
 refine p_ rfl (L_extract rfl rfl) ?_
 refine p_ rfl (L_extract rfl rfl) ?_
 refine x_alloc rfl rfl rfl rfl za_42 ?_
 refine EOps_go rfl rfl (EOp_store rfl rfl rfl (xb1 ty_42) ?_)
 refine xas ?_
 refine xas ?_
 refine EOps_nil ?_
 refine G_seq ?_
 refine g_tidy_A37_0 [0,2,3,4,5,6,7,8,19] ?_
 refine G_region' (L:=[0,1,2,3,4,5,6,7,8,9,10,11]) rfl ?_
 refine xmv ?_
 refine l_ rfl (L_load rfl (xb0 ty_29)) ?_
 refine xmv ?_
 refine x_call rfl rfl rfl rfl rfl ca_16 (hsp) ?_
 rintro r S ⟨rfl,rfl⟩
 refine xmv ?_
 refine p_ rfl (L_extract rfl rfl) ?_
 refine p_ rfl (L_extract rfl rfl) ?_
 refine p_ rfl (L_extract rfl rfl) ?_
 refine x_alloc rfl rfl rfl rfl za_42 ?_
 refine EOps_go rfl rfl (EOp_store rfl rfl rfl (xb1 ty_42) ?_)
 refine xas ?_
 refine xas ?_
 refine EOps_nil ?_
 refine G_seq ?_
 refine G_seq ?_
 refine g_tidy_A37_0 [0,2,3,4,5,6,7,8,9,10,11,19] ?_
 refine G_region' (L:=[0,1,2,3,4,5,6,7,8,9,10,11,12,13,14,15,16]) rfl ?_
 refine l_ rfl (L_load rfl (xb0 ty_42)) ?_
 refine l_ rfl (L_load rfl (xb0 ty_42)) ?_
 refine x_call rfl rfl rfl rfl rfl ca_17 (c_spec_EqualCrackers C C) ?_
 rintro r S ⟨rfl,rfl⟩
 refine p_ rfl (L_not rfl rfl) ?_
 refine xmv ?_
 refine EOps_split 46 (b:=_) rfl (fun hg46=>?_) (fun hg46=>?_)
 ·simp at hg46
 refine xmv ?_
 refine xmv ?_
 refine x_call rfl rfl rfl rfl rfl ca_18 (c_laws_sameInts K K) ?_
 rintro r S ⟨rfl,rfl⟩
 refine p_ rfl (L_not rfl rfl) ?_
 refine p_ rfl (L_pick rfl rfl) ?_
 refine xmv ?_
 refine EOps_split 52 (b:=_) rfl (fun hg52=>?_) (fun hg52=>?_)
 ·simp at hg52
 refine xmv ?_
 refine p_ rfl (l_len rfl sl_43) ?_
 refine xmv ?_
 refine p_ rfl (l_len rfl sl_43) ?_
 refine p_ rfl (L_bin rfl rfl rfl rfl) ?_
 refine p_ rfl (L_pick rfl rfl) ?_
 refine EOps_nil ?_
 refine G_cond rfl (fun hc58=>?_) (fun hc58=>?_)
 ·simp at hc58
 refine G_skip ?_
 refine G_seq ?_
 refine G_seq ?_
 refine G_region' (L:=[0]) rfl ?_
 refine xas ?_
 refine EOps_nil ?_
 refine G_block ?_
 refine (X_freeze 7 6 rfl rfl hnl).G fun _=>?_
 refine g_forD_A37_1 (α:=Nat) [0,3,4,5,6,7,8,9,10,11,19,58] (fun i=>[(12,.c (.sc (.int .i64 ((i:Int)))))]) (fun _=>_) (fun i=>i≤L.length) (fun i=>L.length - i) (0) ?_ (rfl) ⟨.inr rfl,trivial⟩ ?_
 ·simp
 rintro i hi
 refine G_seq ?_
 refine G_seq ?_
 refine G_region' (L:=[0,1,2,3]) rfl ?_
 refine xmv ?_
 refine xmv ?_
 refine p_ rfl (l_len rfl sl_43) ?_
 refine p_ rfl (L_bin rfl rfl rfl rfl) ?_
 refine EOps_nil ?_
 refine G_cond rfl (fun hc62=>?_) (fun hc62=>?_)
 ·have hi1 : i < L.length := by simpa [nest_len] using hc62
  have hLi:=han i hi1
  have hni:=nest_getT hLi
  obtain⟨r,hr⟩:=at_lt (l:=rs) (k:=i) (by omega)
  have hrd:rs.getD i (0,0)=r:=by rw [List.getD_eq_getElem?_getD,hr];rfl
  rw [hrd] at hni
  refine G_skip ?_
  refine G_seq ?_
  refine G_block ?_
  refine G_seq ?_
  refine g_tidy_A37_0 [0,2,3,4,5,6,7,8,9,10,11,12,19,58,62,76] ?_
  refine G_drawT mixed ?_
  refine tj_ 0 rfl (L_move rfl) ?_
  refine tj_ 1 rfl (L_move rfl) ?_
  refine tj_ 2 rfl (L_index rfl rfl (xii sl_43 ty_22)) ?_
  refine tl_ 3 rfl (L_load rfl (xb0 ty_22)) ?_
  refine tj_ 4 rfl (L_move rfl) ?_
  refine tj_ 5 rfl (L_move rfl) ?_
  refine tj_ 6 rfl (L_move rfl) ?_
  refine tj_ 7 rfl (L_index rfl rfl (xii sl_31 ty_49)) ?_
  refine tl_ 8 rfl (L_load rfl (xb0 ty_49)) ?_
  refine t_call 9 rfl rfl rfl rfl rfl ca_19 (c_spec_ScanRange xs r (by omega)) ?_
  rintro r S ⟨rfl,rfl⟩
  refine t_call 10 rfl rfl rfl rfl rfl ca_18 (c_laws_sameInts (scN xs r xs.length) (scN xs r xs.length)) ?_
  rintro r S ⟨rfl,rfl⟩
  refine tj_ 11 rfl (L_not rfl rfl) ?_
  refine T_done (by kernel_rfl) ?_
  refine G_cond rfl (fun hc76=>?_) (fun hc76=>?_)
  ·simp at hc76
  refine G_skip ?_
  refine G_region' (L:=[0,1,2]) rfl ?_
  refine xmv ?_
  refine p_ rfl xb3 ?_
  refine xas ?_
  refine EOps_nil ?_
  refine⟨[0,1,2,3,4,5,6,7,8,9,10,11,12,13,14],rfl,i+1,?_,?_,rfl,⟨.inr rfl,trivial⟩,⟨.inr rfl,.inr rfl,.inr rfl,.inr rfl,.inr rfl,.inr rfl,.inr rfl,.inr rfl,.inr rfl,.inr rfl,.inr rfl,.inr rfl,trivial⟩⟩
  ·first|omega|(dsimp only;omega)|(simp;omega)
  first|trivial|omega|(dsimp only;omega)|(simp;omega)
 refine G_exit ?_
 refine G_seq ?_
 refine G_seq ?_
 refine G_region' (L:=[0,1,2]) rfl ?_
 refine xmv ?_
 refine p_ rfl (l_len rfl sl_22) ?_
 refine p_ rfl (L_bin rfl rfl rfl rfl) ?_
 refine EOps_nil ?_
 refine G_cond rfl (fun hc79=>?_) (fun hc79=>?_)
 ·refine G_seq ?_
  refine G_region' (L:=[0]) rfl ?_
  refine xas ?_
  refine EOps_nil ?_
  refine G_ret ?_
  refine⟨_,[],rfl,rfl,bool_eq ?_,rfl⟩
  first|rfl|exact k8|simp [k8]
 have hK0 : K.length ≠ 0 := by intro e; simp [ints_len, e] at hc79
 obtain⟨q0,k1,k2,k3,k4,k5,k6,k7,k8⟩:=hkq hK0
 obtain⟨q1,q2,q3,q4⟩:=areQ_parts q0
 have hx64:=(areVals_parts q1).1
 refine G_skip ?_
 refine G_seq ?_
 refine g_tidy_A37_0 [0,2,3,4,5,6,7,8,9,10,11,12,19,58,62,76,79] ?_
 refine G_region' (L:=[0,1,2,3,4]) rfl ?_
 refine xmv ?_
 refine l_ rfl (L_load rfl (xb0 ty_29)) ?_
 refine xmv ?_
 refine x_call rfl rfl rfl rfl rfl ca_20 (hlg) ?_
 rintro r S ⟨rfl,rfl⟩
 refine xas ?_
 refine EOps_nil ?_
 refine G_seq ?_
 refine g_tidy_A37_0 [0,2,3,4,5,6,7,8,9,10,11,12,13,19,58,62,76,79] ?_
 refine G_region' (L:=[0,1,2,3,4,5,6,7,8]) rfl ?_
 refine xmv ?_
 refine xmv ?_
 refine x_call rfl rfl rfl rfl rfl ca_21 (c_impl_ReplayLedger xs G (by omega)) ?_
 rintro r S ⟨rfl,rfl⟩
 rw [k1,k2]
 refine xmv ?_
 refine p_ rfl (L_extract rfl rfl) ?_
 refine p_ rfl (L_extract rfl rfl) ?_
 refine x_alloc rfl rfl rfl rfl za_42 ?_
 refine EOps_go rfl rfl (EOp_store rfl rfl rfl (xb1 ty_42) ?_)
 refine xas ?_
 refine EOps_nil ?_
 refine G_seq ?_
 refine G_region' (L:=[0]) rfl ?_
 refine xas ?_
 refine EOps_nil ?_
 refine G_seq ?_
 refine G_seq ?_
 refine G_region' (L:=[0]) rfl ?_
 refine xas ?_
 refine EOps_nil ?_
 refine G_block ?_
 refine g_for_A196_2 (α:=Nat) [0,2,3,4,5,6,7,8,9,10,11,12,13,14,15,19,58,62,76,79] (fun j=>[(17,.c (.sc (.int .i64 ((j:Int))))),(16,.c (.sc (.int .i64 ((sumI (K.take j))))))]) (fun _=>_) (fun j=>j≤K.length) (fun j=>K.length - j) (0) ?_ (rfl) ⟨.inr rfl,.inr (int_eq (by simp [sumI])),trivial⟩ ?_
 ·simp
 rintro j hj
 refine G_seq ?_
 refine G_seq ?_
 refine G_region' (L:=[0,1,2,3]) rfl ?_
 refine xmv ?_
 refine xmv ?_
 refine p_ rfl (l_len rfl sl_22) ?_
 refine p_ rfl (L_bin rfl rfl rfl rfl) ?_
 refine EOps_nil ?_
 refine G_cond rfl (fun hc93=>?_) (fun hc93=>?_)
 ·have hc93' : j < (K).length := by simpa [ints_len, bools_len, pairs_len, quads_len, quints_len] using hc93
  obtain⟨x2,hx2⟩:∃ x,(K)[j]? = some x:=⟨_,List.getElem?_eq_getElem hc93'⟩
  have h1:=sumI_in hkb j
  have h2:=hkb x2 (List.mem_of_getElem? hx2)
  have h3:(K.take j).length≤1000:=by rw [List.length_take];omega
  refine G_skip ?_
  refine G_seq ?_
  refine G_block ?_
  refine G_region' (L:=[0,1,2,3,4,5,6]) rfl ?_
  refine xmv ?_
  refine xmv ?_
  refine xmv ?_
  refine p_ rfl (L_index rfl rfl (xii sl_22 ty_3)) ?_
  refine l_ rfl (L_load rfl (xb0 ty_3)) ?_
  refine p_ rfl xb3 ?_
  refine xas ?_
  refine EOps_nil ?_
  refine G_region' (L:=[0,1,2]) rfl ?_
  refine xmv ?_
  refine p_ rfl xb3 ?_
  refine xas ?_
  refine EOps_nil ?_
  refine⟨j+1,?_,?_,rfl,⟨.inr rfl,.inr (int_eq (sumI_step hx2).symm),trivial⟩,⟨.inr rfl,.inr rfl,.inr rfl,.inr rfl,.inr rfl,.inr rfl,.inr rfl,.inr rfl,.inr rfl,.inr rfl,.inr rfl,.inr rfl,.inr rfl,.inr rfl,.inr rfl,.inr rfl,.inr rfl,.inr rfl,.inr rfl,.inr rfl,trivial⟩⟩
  ·first|omega|(dsimp only;omega)|(simp;omega)
  first|trivial|omega|(dsimp only;omega)|(simp;omega)
 have hj' : K.length ≤ j := by simpa [ints_len] using hc93
 rw [List.take_of_length_le hj']
 refine G_exit ?_
 refine G_seq ?_
 refine g_tidy_A37_0 [0,2,3,4,5,6,7,8,9,10,11,12,13,14,15,16,17,19,58,62,76,79,93] ?_
 refine G_region' (L:=[0,1,2,3,4,5,6,7,8,9,10,11,12,13,14,15,16,17,18,19,20,21,22,23,24,25,26,27,28,29,30,31,32,33,34,35,36,37,38,39,40]) rfl ?_
 refine xmv ?_
 refine xmv ?_
 refine EOps_split 103 (b:=_) rfl (fun hg103=>?_) (fun hg103=>?_)
 ·refine l_ rfl (L_load rfl (xb2 ty_42)) ?_
  refine l_ rfl (L_load rfl (xb0 ty_42)) ?_
  refine x_call rfl rfl rfl rfl rfl ca_17 (c_spec_EqualCrackers C C) ?_
  rintro r S ⟨rfl,rfl⟩
  refine p_ rfl (L_pick rfl rfl) ?_
  refine xmv ?_
  refine EOps_split 108 (b:=_) rfl (fun hg108=>?_) (fun hg108=>?_)
  ·refine l_ rfl (L_load rfl (xb2 ty_42)) ?_
   refine x_call rfl rfl rfl rfl rfl ca_22 (c_impl_IsCracker C) ?_
   rintro r S ⟨rfl,rfl⟩
   refine p_ rfl (L_pick rfl rfl) ?_
   refine xmv ?_
   refine EOps_split 112 (b:=_) rfl (fun hg112=>?_) (fun hg112=>?_)
   ·refine l_ rfl (L_load rfl (xb2 ty_42)) ?_
    refine x_call rfl rfl rfl rfl rfl ca_23 (c_laws_pairsOf C k3) ?_
    rintro r S ⟨rfl,rfl⟩
    refine xmv ?_
    refine x_call rfl rfl rfl rfl rfl ca_24 (c_spec_NewCracker xs (by omega)) ?_
    rintro r S ⟨rfl,rfl⟩
    refine x_call rfl rfl rfl rfl rfl ca_23 (c_laws_pairsOf (newCrk xs) (newCrk_ok q1)) ?_
    rintro r S ⟨rfl,rfl⟩
    refine x_call rfl rfl rfl rfl rfl ca_18 (c_laws_sameInts (prL C) (prL (newCrk xs))) ?_
    rintro r S ⟨rfl,rfl⟩
    refine p_ rfl (L_pick rfl rfl) ?_
    refine xmv ?_
    refine EOps_split 120 (b:=_) rfl (fun hg120=>?_) (fun hg120=>?_)
    ·refine xmv ?_
     refine x_call rfl rfl rfl rfl rfl ca_25 (c_impl_TotalSwaps G 1000000 k6 (Nat.le_refl _)) ?_
     rintro r S ⟨rfl,rfl⟩
     refine xmv ?_
     refine p_ rfl (L_bin rfl rfl rfl rfl) ?_
     refine p_ rfl (L_pick rfl rfl) ?_
     refine xmv ?_
     refine EOps_split 126 (b:=_) rfl (fun hg126=>?_) (fun hg126=>?_)
     ·refine xmv ?_
      refine xmv ?_
      refine p_ rfl (l_len rfl sl_22) ?_
      refine l_ rfl (L_load rfl (xb0 ty_29)) ?_
      refine xmv ?_
      refine p_ rfl (l_len rfl sl_31) ?_
      refine x_call rfl rfl rfl rfl rfl ca_26 (c_impl_SwapBound xs.length rs.length s hx64 q3 q2) ?_
      rintro r S ⟨rfl,rfl⟩
      refine p_ rfl (L_bin rfl rfl rfl rfl) ?_
      refine p_ rfl (L_pick rfl rfl) ?_
      refine xmv ?_
      refine EOps_split 136 (b:=_) rfl (fun hg136=>?_) (fun hg136=>?_)
      ·refine xmv ?_
       refine l_ rfl (L_load rfl (xb0 ty_29)) ?_
       refine xmv ?_
       refine x_call rfl rfl rfl rfl rfl ca_10 (c_impl_IsWithinBound xs s rs) ?_
       rintro r S ⟨rfl,rfl⟩
       refine p_ rfl (L_pick rfl rfl) ?_
       refine xas ?_
       refine EOps_nil ?_
       refine G_ret ?_
       refine⟨_,[],rfl,rfl,bool_eq ?_,rfl⟩
       first|rfl|exact k8|simp [k8]
      simp at hg136;omega
     simp [k5] at hg126
    simp [k4] at hg120
   simp [k3] at hg112
  simp at hg108
 cases hg103

end Go.Proofs.YtjbbjicochipeaaGreat.E
