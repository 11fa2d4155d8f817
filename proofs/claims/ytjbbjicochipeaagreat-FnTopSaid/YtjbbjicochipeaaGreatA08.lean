/- Walks through functions, by program out of the session's annotations. -/
import Derived.Test.YtjbbjicochipeaaGreatA03
import Derived.Test.YtjbbjicochipeaaGreatA06
namespace Go.Proofs.YtjbbjicochipeaaGreat.E
open Go Go.RowKit Go.Proofs
set_option linter.unusedVariables false
set_option linter.unusedSimpArgs false

/-- The rows of a new column. -/
def upto : Nat → List Int
 | 0=>[]
 | n+1=>upto n++[(n:Int)]
theorem upto_len : ∀ n, (upto n).length = n
 | 0=>rfl
 | n+1=>by simp [upto,upto_len n]
def newCrk (xs:List Int):Crk:=if areVals xs=true then ⟨xs,upto xs.length,[]⟩ else ⟨[],[],[]⟩
/-- A column of the callee's own. -/
def crkO (n:Nat) (c:Crk):List AC:=[.sl n 0 c.vals.length c.vals.length,.sl (n+1) 0 c.rows.length c.rows.length,.sl (n+2) 0 c.piv.length c.piv.length]
def crkR (ti tp:Nat) (c:Crk):List Res:=[.row ti 1 (ints c.vals),.row ti 1 (ints c.rows),.row tp 2 (pairs c.piv)]
set_option maxRecDepth 20000 in
set_option maxHeartbeats 2000000 in
theorem c_slices_Clone___int_int_0 (xs : List Int) (hn : xs.length ≤ 1048576) : EFn Tryz.prog 72 [.c (.ro (ints xs))] [] (fun r S => (r = .c (.sl 0 0 xs.length xs.length) ∧ S = [.row 3 1 (ints xs)]) ∨ (r = .c (.sc (.slice none 0 0)) ∧ S = [] ∧ xs = [])) := by
 refine E_fn Tryz.func72 rfl (Nat.le_of_ble_eq_true rfl) ?_
 refine E_seq ?_
 refine E_region' (L:=[0]) rfl ?_
 refine xas ?_
 refine EOps_nil ?_
 refine E_seq ?_
 refine E_seq ?_
 refine E_region' (L:=[0,1]) rfl ?_
 refine xmv ?_
 refine EOps_go rfl rfl (Heavy.op (H_nil rfl rfl (by decide) sl_22 rfl ?_))
 rintro b4 hb4
 refine EOps_nil ?_
 refine E_cond rfl (fun hc4=>?_) (fun hc4=>?_)
 ·have he : xs = [] := by have := hb4 hc4; exact ints_inj (ys := []) this
  refine E_seq ?_
  refine E_region' (L:=[0]) rfl ?_
  refine xas ?_
  refine EOps_nil ?_
  refine E_ret ?_
  exact⟨_,[],rfl,rfl,.inr ⟨rfl,rfl,he⟩⟩
 refine E_skip ?_
 refine E_seq ?_
 refine E_region' (L:=[0,1,2,3]) rfl ?_
 refine EOps_go rfl rfl (Heavy.op (H_bslice rfl rfl (by decide) sl_22 ty_3 za_3 ⟨rfl,by decide⟩ (by decide) rfl rfl rfl rfl ?_))
 refine xmv ?_
 refine EOps_go rfl rfl (EOp_append (news:=ints xs) rfl rfl (by decide) sl_22 ty_3 by_3 za_3 ⟨rfl,by decide⟩ rfl (by first|rfl|assumption) xb7 xb8 xb9 xb10 ?_)
 refine xas ?_
 refine EOps_nil ?_
 refine E_ret ?_
 refine⟨_,[0],rfl,rfl,.inl ⟨?_,?_⟩⟩
 ·simp [AV.ren,ren_sc,ren_ro,AC.ren,AC.ren.rens,ix,rv1,E.get,E.ev,E.cv,E.fill',E.fill,E.slotsOf,ints_len]
 simp [reR,Res.ren,chunk]

theorem c_slices_Clone___int_int_ (xs : List Int) (hn : xs.length ≤ 1048576) : EFn Tryz.prog 72 [.c (.ro (ints xs))] [] (fun r S => r = .c (.sl 0 0 xs.length xs.length) ∧ S = [.row 3 1 (ints xs)]) :=
 (c_slices_Clone___int_int_0 xs hn).ghost (by
  rintro r S (⟨rfl,rfl⟩|⟨rfl,rfl,rfl⟩)
  ·exact .inl ⟨rfl,rfl⟩
  exact .inr (.inr ⟨_,.sl 0 0 0 0,[some (3,1)],rfl,rfl,rfl,rfl,rfl⟩))

set_option maxRecDepth 20000 in
set_option maxHeartbeats 2000000 in
theorem c_impl_NewCracker (xs : List Int) (hn : xs.length ≤ 1048576) : EFn Tryz.prog 46 [.c (.ro (ints xs))] [] (fun r S => r = .agg (crkO 0 (newCrk xs)) ∧ S = crkR 3 87 (newCrk xs)) := by
 refine E_fn Tryz.func46 rfl (Nat.le_of_ble_eq_true rfl) ?_
 refine E_seq ?_
 refine E_region' (L:=[0]) rfl ?_
 refine x_alloc rfl rfl rfl rfl za_42 ?_
 refine EOps_nil ?_
 refine E_seq ?_
 refine E_seq ?_
 refine e_tidy [0,2] ?_
 refine E_region' (L:=[0,1,2]) rfl ?_
 refine xmv ?_
 refine x_call rfl rfl rfl rfl rfl ca_45 (c_impl_AreValues xs) ?_
 rintro r S ⟨rfl,rfl⟩
 refine p_ rfl (L_not rfl rfl) ?_
 refine EOps_nil ?_
 refine E_cond rfl (fun hc7=>?_) (fun hc7=>?_)
 ·have hv : areVals xs = false := by simpa using hc7
  have he:newCrk xs=⟨[],[],[]⟩:=by rw [newCrk,hv];rfl
  refine E_seq ?_
  refine E_region' (L:=[0,1]) rfl ?_
  refine p_ rfl (L_build rfl bd_42 rfl rfl) ?_
  refine EOps_go rfl rfl (EOp_store rfl rfl rfl (xb1 ty_42) ?_)
  refine EOps_nil ?_
  refine E_ghostB 0 0 3 1 rfl rfl (by decide) ?_
  refine E_ghostB 0 1 3 1 rfl rfl (by decide) ?_
  refine E_ghostB 0 2 87 2 rfl rfl (by decide) ?_
  refine E_ret ?_
  rw [he]
  exact⟨_,[1,2,3],rfl,rfl,rfl,rfl⟩
 have hv : areVals xs = true := by simpa using hc7
 have he:newCrk xs=⟨xs,upto xs.length,[]⟩:=by rw [newCrk,hv];rfl
 refine E_skip ?_
 refine E_seq ?_
 refine e_tidy [0,2,7] ?_
 refine E_region' (L:=[0,1,2,3,4]) rfl ?_
 refine xmv ?_
 refine x_call rfl rfl rfl rfl rfl ca_72 (c_slices_Clone___int_int_ xs hn) ?_
 rintro r S ⟨rfl,rfl⟩
 refine p_ rfl (L_build rfl bd_42 rfl rfl) ?_
 refine x_alloc rfl rfl rfl rfl za_42 ?_
 refine EOps_go rfl rfl (EOp_store rfl rfl rfl (xb1 ty_42) ?_)
 refine EOps_nil ?_
 refine E_seq ?_
 refine E_seq ?_
 refine E_region' (L:=[0,1,2]) rfl ?_
 refine xmv ?_
 refine p_ rfl (l_len rfl sl_22) ?_
 refine xmv ?_
 refine EOps_nil ?_
 refine E_block ?_
 refine E_ghostB 2 1 3 1 rfl rfl (by decide) ?_
 refine E_ghostB 2 2 87 2 rfl rfl (by decide) ?_
 refine e_for (α:=Nat) [0,2,3,7,13] (fun k=>[(14,.c (.sc (.int .i64 (k)))),(4,.any)]) (fun k=>[.box [.sc (.slice none 0 0),.sc (.slice none 0 0),.sc (.slice none 0 0)],.row 3 1 (ints xs),.box [.sl 1 0 xs.length xs.length,.sl 3 0 k k,.sl 4 0 0 0],.row 3 1 (ints (upto k)),.row 87 2 []]) (fun k=>k≤xs.length) (fun k=>xs.length - k) (0) ?_ (by (try simp only [E.keepOf,E.get,E.ev,E.cv,E.fill',E.fill,E.slotsOf,Res.sh,AC.sh,AC.sh.shs,AV.sh,E.splice,List.map_cons,List.map_nil,List.cons_append,List.nil_append,List.append_nil,List.length_cons,List.length_nil,List.take_zero,List.drop_zero,List.take_succ_cons,List.drop_succ_cons,List.drop_nil,List.take_nil,List.set_cons_zero,List.set_cons_succ,Nat.zero_add,Nat.add_zero,Nat.reduceAdd,Nat.reduceSub,reduceIte,Nat.reduceEqDiff,E.back,E.backR,E.ix,Res.un,AC.un,AC.un.uns,AV.un,E.un,Option.map_some,Option.map_none,Option.getD_some,List.getElem?_cons_zero,List.getElem?_cons_succ,List.getElem?_nil]);rfl) ⟨.inr rfl,.inl rfl,trivial⟩ ?_
 ·simp
 rintro k hk
 refine E_seq ?_
 refine E_region' (L:=[0]) rfl ?_
 refine p_ rfl (L_bin rfl rfl rfl rfl) ?_
 refine EOps_nil ?_
 refine E_seq ?_
 refine E_cond rfl (fun hc15=>?_) (fun hc15=>?_)
 ·have hc15' : k < (xs).length := by simpa [ints_len, bools_len, pairs_len, quads_len, quints_len] using hc15
  obtain⟨x,hx⟩:∃ x,(xs)[k]? = some x:=⟨_,List.getElem?_eq_getElem hc15'⟩
  refine E_skip ?_
  refine E_seq ?_
  refine E_block ?_
  refine E_seq ?_
  refine E_region' (L:=[0,1]) rfl ?_
  refine xmv ?_
  refine xas ?_
  refine EOps_nil ?_
  refine E_region' (L:=[0,1,2,3,4,5,6]) rfl ?_
  refine p_ rfl (l_field rfl fo_42_1) ?_
  refine l_ rfl (L_load rfl (xb0 ty_22)) ?_
  refine xmv ?_
  refine EOps_go rfl rfl (Heavy.op (H_bslice_ro rfl rfl (by decide) sl_22 ty_3 za_3 ⟨rfl,by decide⟩ (by decide) rfl rfl rfl rfl ?_))
  have hul:(ints (upto k)).length=k:=by rw [ints_len,upto_len]
  refine EOps_go rfl rfl (EOp_append (news:=[[T.sc (.int .i64 (k:Int))]]) rfl rfl (by decide) sl_22 ty_3 by_3 za_3 ⟨rfl,by decide⟩ rfl (by first|rfl|assumption) xb7 xb8 xb9 xb10 ?_)
  refine p_ rfl (l_field rfl fo_42_1) ?_
  refine EOps_go rfl rfl (EOp_store rfl rfl rfl (xb1 ty_22) ?_)
  refine EOps_nil ?_
  refine E_region' (L:=[0,1]) rfl ?_
  refine p_ rfl xb3 ?_
  refine xmv ?_
  refine EOps_nil ?_
  refine⟨k+1,?_,?_,by simp [upto,← ints_app,ints];rfl,⟨.inr rfl,.inl rfl,trivial⟩,⟨.inr rfl,.inr rfl,.inr rfl,.inr rfl,.inr rfl,trivial⟩⟩
  ·first|omega|(dsimp only;omega)|(simp;omega)
  first|trivial|omega|(dsimp only;omega)|(simp;omega)
 have hk0 : xs.length ≤ k := by simpa [ints_len] using hc15
 have hk':k=xs.length:=by omega
 refine E_exit ?_
 refine E_seq ?_
 refine E_region' (L:=[0,1]) rfl ?_
 refine l_ rfl (L_load rfl (xb0 ty_42)) ?_
 refine EOps_go rfl rfl (EOp_store rfl rfl rfl (xb1 ty_42) ?_)
 refine EOps_nil ?_
 refine E_ret ?_
 rw [he]
 refine⟨_,[1,3,4],rfl,rfl,?_,?_⟩
 ·subst hk'
  simp only [crkO,upto_len]
  rfl
 subst hk';rfl

set_option maxRecDepth 20000 in
set_option maxHeartbeats 2000000 in
theorem c_spec_NewCracker (xs : List Int) (hn : xs.length ≤ 1048576) : EFn Tryz.prog 24 [.c (.ro (ints xs))] [] (fun r S => r = .agg (crkO 0 (newCrk xs)) ∧ S = crkR 3 87 (newCrk xs)) := by
 refine E_fn Tryz.func24 rfl (Nat.le_of_ble_eq_true rfl) ?_
 refine E_seq ?_
 refine E_region' (L:=[0]) rfl ?_
 refine x_alloc rfl rfl rfl rfl za_42 ?_
 refine EOps_nil ?_
 refine E_seq ?_
 refine E_seq ?_
 refine e_tidy [0,2] ?_
 refine E_region' (L:=[0,1,2]) rfl ?_
 refine xmv ?_
 refine x_call rfl rfl rfl rfl rfl ca_27 (c_spec_AreValues xs) ?_
 rintro r S ⟨rfl,rfl⟩
 refine p_ rfl (L_not rfl rfl) ?_
 refine EOps_nil ?_
 refine E_cond rfl (fun hc7=>?_) (fun hc7=>?_)
 ·have hv : areVals xs = false := by simpa using hc7
  have he:newCrk xs=⟨[],[],[]⟩:=by rw [newCrk,hv];rfl
  refine E_seq ?_
  refine E_region' (L:=[0,1]) rfl ?_
  refine p_ rfl (L_build rfl bd_42 rfl rfl) ?_
  refine EOps_go rfl rfl (EOp_store rfl rfl rfl (xb1 ty_42) ?_)
  refine EOps_nil ?_
  refine E_ghostB 0 0 3 1 rfl rfl (by decide) ?_
  refine E_ghostB 0 1 3 1 rfl rfl (by decide) ?_
  refine E_ghostB 0 2 87 2 rfl rfl (by decide) ?_
  refine E_ret ?_
  rw [he]
  exact⟨_,[1,2,3],rfl,rfl,rfl,rfl⟩
 have hv : areVals xs = true := by simpa using hc7
 have he:newCrk xs=⟨xs,upto xs.length,[]⟩:=by rw [newCrk,hv];rfl
 refine E_skip ?_
 refine E_seq ?_
 refine E_region' (L:=[0,1,2,3,4,5]) rfl ?_
 refine EOps_go rfl rfl (Heavy.op (H_bslice rfl rfl (by decide) sl_22 ty_3 za_3 ⟨rfl,by decide⟩ (by decide) rfl rfl rfl rfl ?_))
 refine xmv ?_
 refine EOps_go rfl rfl (EOp_append (news:=ints xs) rfl rfl (by decide) sl_22 ty_3 by_3 za_3 ⟨rfl,by decide⟩ rfl (by first|rfl|assumption) xb7 xb8 xb9 xb10 ?_)
 refine p_ rfl (L_build rfl bd_42 rfl rfl) ?_
 refine x_alloc rfl rfl rfl rfl za_42 ?_
 refine EOps_go rfl rfl (EOp_store rfl rfl rfl (xb1 ty_42) ?_)
 refine EOps_nil ?_
 refine E_seq ?_
 refine E_seq ?_
 refine E_region' (L:=[0]) rfl ?_
 refine xas ?_
 refine EOps_nil ?_
 refine E_block ?_
 refine E_ghostB 2 1 3 1 rfl rfl (by decide) ?_
 refine E_ghostB 2 2 87 2 rfl rfl (by decide) ?_
 refine e_for (α:=Nat) [0,2,3,7] (fun k=>[(4,.c (.sc (.int .i64 (k))))]) (fun k=>[.box [.sc (.slice none 0 0),.sc (.slice none 0 0),.sc (.slice none 0 0)],.row 3 1 (ints xs),.box [.sl 1 0 xs.length xs.length,.sl 3 0 k k,.sl 4 0 0 0],.row 3 1 (ints (upto k)),.row 87 2 []]) (fun k=>k≤xs.length) (fun k=>xs.length - k) (0) ?_ (by simp [Res.sh,AC.sh,splice,chunk,upto,ints]) ⟨.inr rfl,trivial⟩ ?_
 ·simp
 rintro k hk
 refine E_seq ?_
 refine E_seq ?_
 refine E_region' (L:=[0,1,2,3]) rfl ?_
 refine xmv ?_
 refine xmv ?_
 refine p_ rfl (l_len rfl sl_22) ?_
 refine p_ rfl (L_bin rfl rfl rfl rfl) ?_
 refine EOps_nil ?_
 refine E_cond rfl (fun hc16=>?_) (fun hc16=>?_)
 ·have hc16' : k < (xs).length := by simpa [ints_len, bools_len, pairs_len, quads_len, quints_len] using hc16
  obtain⟨x,hx⟩:∃ x,(xs)[k]? = some x:=⟨_,List.getElem?_eq_getElem hc16'⟩
  refine E_skip ?_
  refine E_seq ?_
  refine E_block ?_
  refine E_region' (L:=[0,1,2,3,4,5,6]) rfl ?_
  refine p_ rfl (l_field rfl fo_42_1) ?_
  refine l_ rfl (L_load rfl (xb0 ty_22)) ?_
  refine xmv ?_
  refine EOps_go rfl rfl (Heavy.op (H_bslice_ro rfl rfl (by decide) sl_22 ty_3 za_3 ⟨rfl,by decide⟩ (by decide) rfl rfl rfl rfl ?_))
  have hul:(ints (upto k)).length=k:=by rw [ints_len,upto_len]
  refine EOps_go rfl rfl (EOp_append (news:=[[T.sc (.int .i64 (k:Int))]]) rfl rfl (by decide) sl_22 ty_3 by_3 za_3 ⟨rfl,by decide⟩ rfl (by first|rfl|assumption) xb7 xb8 xb9 xb10 ?_)
  refine p_ rfl (l_field rfl fo_42_1) ?_
  refine EOps_go rfl rfl (EOp_store rfl rfl rfl (xb1 ty_22) ?_)
  refine EOps_nil ?_
  refine E_region' (L:=[0,1,2]) rfl ?_
  refine xmv ?_
  refine p_ rfl xb3 ?_
  refine xas ?_
  refine EOps_nil ?_
  refine⟨k+1,?_,?_,by simp [upto,← ints_app,ints];rfl,⟨.inr rfl,trivial⟩,⟨.inr rfl,.inr rfl,.inr rfl,.inr rfl,trivial⟩⟩
  ·first|omega|(dsimp only;omega)|(simp;omega)
  first|trivial|omega|(dsimp only;omega)|(simp;omega)
 have hk0 : xs.length ≤ k := by simpa [ints_len] using hc16
 have hk':k=xs.length:=by omega
 refine E_exit ?_
 refine E_seq ?_
 refine E_region' (L:=[0,1]) rfl ?_
 refine l_ rfl (L_load rfl (xb0 ty_42)) ?_
 refine EOps_go rfl rfl (EOp_store rfl rfl rfl (xb1 ty_42) ?_)
 refine EOps_nil ?_
 refine E_ret ?_
 rw [he]
 refine⟨_,[1,3,4],rfl,rfl,?_,?_⟩
 ·subst hk'
  simp only [crkO,upto_len]
  rfl
 subst hk';rfl

end Go.Proofs.YtjbbjicochipeaaGreat.E
