/- Walks through functions, by program out of the session's annotations. -/
import Derived.Test.YthlhmpknngidmaaGreatA03
import Derived.Test.YthlhmpknngidmaaGreatA06
namespace Go.Proofs.YthlhmpknngidmaaGreat.E
open Go Go.RowKit Go.Proofs
set_option linter.unusedVariables false
set_option linter.unusedSimpArgs false

/-- The rows of a new column. -/
def upto : Nat → List Int
 | 0=>[]
 | n+1=>upto n++[(n:Int)]
theorem upto_len : ∀ n, (upto n).length = n
 | 0=>rfl
 | n+1=>by simp [upto,upto_len n]
def newCrk (xs:List Int):Crk:=if areVals xs=true then ⟨xs,upto xs.length,[]⟩ else ⟨[],[],[]⟩
/-- A column of the callee's own. -/
def crkO (n:Nat) (c:Crk):List AC:=[.sl n 0 c.vals.length c.vals.length,.sl (n+1) 0 c.rows.length c.rows.length,.sl (n+2) 0 c.piv.length c.piv.length]
def crkR (ti tp:Nat) (c:Crk):List Res:=[.row ti 1 (ints c.vals),.row ti 1 (ints c.rows),.row tp 2 (pairs c.piv)]
def newMp (xs ys:List Int):Mp:=if areVals xs=true∧areVals ys=true∧xs.length=ys.length then ⟨newCrk xs,ys,0⟩ else ⟨⟨[],[],[]⟩,[],0⟩
def mpO (n:Nat) (m:Mp):List AC:=[.sl n 0 m.c.vals.length m.c.vals.length,.sl (n+1) 0 m.c.rows.length m.c.rows.length,.sl (n+2) 0 m.c.piv.length m.c.piv.length,.sl (n+3) 0 m.tail.length m.tail.length,.sc (.int .i64 m.app)]
def mpR (ti tp:Nat) (m:Mp):List Res:=[.row ti 1 (ints m.c.vals),.row ti 1 (ints m.c.rows),.row tp 2 (pairs m.c.piv),.row ti 1 (ints m.tail)]

set_option maxRecDepth 20000 in
set_option maxHeartbeats 2000000 in
theorem c_slices_Clone___int_int_0 (xs : List Int) (hn : xs.length ≤ 1048576) : EFn Tryz.prog 90 [.c (.ro (ints xs))] [] (fun r S => (r = .c (.sl 0 0 xs.length xs.length) ∧ S = [.row 3 1 (ints xs)]) ∨ (r = .c (.sc (.slice none 0 0)) ∧ S = [] ∧ xs = [])) := by
 refine E_fn Tryz.func90 rfl (Nat.le_of_ble_eq_true rfl) ?_
 refine E_seq ?_
 refine E_region' (L:=[0]) rfl ?_
 refine xas ?_
 refine EOps_nil ?_
 refine E_seq ?_
 refine E_seq ?_
 refine E_region' (L:=[0,1]) rfl ?_
 refine xmv ?_
 refine EOps_go rfl rfl (Heavy.op (H_nil rfl rfl (by decide) sl_22 rfl ?_))
 rintro b4 hb4
 refine EOps_nil ?_
 refine E_cond rfl (fun hc4=>?_) (fun hc4=>?_)
 ·have he : xs = [] := by have := hb4 hc4; exact ints_inj (ys := []) this
  refine E_seq ?_
  refine E_region' (L:=[0]) rfl ?_
  refine xas ?_
  refine EOps_nil ?_
  refine E_ret ?_
  exact⟨_,[],rfl,rfl,.inr ⟨rfl,rfl,he⟩⟩
 ·refine E_skip ?_
  refine E_seq ?_
  refine E_region' (L:=[0,1,2,3]) rfl ?_
  refine EOps_go rfl rfl (Heavy.op (H_bslice rfl rfl (by decide) sl_22 ty_3 za_3 ⟨rfl,by decide⟩ (by decide) rfl rfl rfl rfl ?_))
  refine xmv ?_
  refine EOps_go rfl rfl (EOp_append (news:=ints xs) rfl rfl (by decide) sl_22 ty_3 by_3 za_3 ⟨rfl,by decide⟩ rfl (by first|rfl|assumption) xb6 xb7 xb8 xb9 ?_)
  refine xas ?_
  refine EOps_nil ?_
  refine E_ret ?_
  refine⟨_,[0],rfl,rfl,.inl ⟨?_,?_⟩⟩
  ·simp [AV.ren,ren_sc,ren_ro,AC.ren,AC.ren.rens,ix,rv1,E.get,E.ev,E.cv,E.fill',E.fill,E.slotsOf,ints_len]
  ·simp [reR,Res.ren,chunk]

theorem c_slices_Clone___int_int_ (xs : List Int) (hn : xs.length ≤ 1048576) : EFn Tryz.prog 90 [.c (.ro (ints xs))] [] (fun r S => r = .c (.sl 0 0 xs.length xs.length) ∧ S = [.row 3 1 (ints xs)]) :=
 (c_slices_Clone___int_int_0 xs hn).ghost (by
  rintro r S (⟨rfl,rfl⟩|⟨rfl,rfl,rfl⟩)
  ·exact .inl ⟨rfl,rfl⟩
  ·exact .inr (.inr ⟨_,.sl 0 0 0 0,[some (3,1)],rfl,rfl,rfl,rfl,rfl⟩))

set_option maxRecDepth 20000 in
set_option maxHeartbeats 2000000 in
theorem c_impl_NewCracker (xs : List Int) (hn : xs.length ≤ 1048576) : EFn Tryz.prog 143 [.c (.ro (ints xs))] [] (fun r S => r = .agg (crkO 0 (newCrk xs)) ∧ S = crkR 3 157 (newCrk xs)) := by
 refine E_fn Tryz.func143 rfl (Nat.le_of_ble_eq_true rfl) ?_
 refine E_seq ?_
 refine E_region' (L:=[0]) rfl ?_
 refine x_alloc rfl rfl rfl rfl za_70 ?_
 refine EOps_nil ?_
 refine E_seq ?_
 refine E_seq ?_
 refine e_tidy [0,2] ?_
 refine E_region' (L:=[0,1,2]) rfl ?_
 refine xmv ?_
 refine x_call rfl rfl rfl rfl rfl ca_103 (c_impl_AreValues xs) ?_
 rintro r S ⟨rfl,rfl⟩
 refine x_pure rfl rfl rfl (L_not rfl rfl) ?_
 refine EOps_nil ?_
 refine E_cond rfl (fun hc7=>?_) (fun hc7=>?_)
 ·have hv : areVals xs = false := by simpa using hc7
  have he:newCrk xs=⟨[],[],[]⟩:=by rw [newCrk,hv];rfl
  refine E_seq ?_
  refine E_region' (L:=[0,1]) rfl ?_
  refine x_pure rfl rfl rfl (L_build rfl bd_70 rfl rfl) ?_
  refine EOps_go rfl rfl (EOp_store rfl rfl rfl (xb1 ty_70) ?_)
  refine EOps_nil ?_
  refine E_ghostB 0 0 3 1 rfl rfl (by decide) ?_
  refine E_ghostB 0 1 3 1 rfl rfl (by decide) ?_
  refine E_ghostB 0 2 157 2 rfl rfl (by decide) ?_
  refine E_ret ?_
  rw [he]
  exact⟨_,[1,2,3],rfl,rfl,rfl,rfl⟩
 ·have hv : areVals xs = true := by simpa using hc7
  have he:newCrk xs=⟨xs,upto xs.length,[]⟩:=by rw [newCrk,hv];rfl
  refine E_skip ?_
  refine E_seq ?_
  refine e_tidy [0,2,7] ?_
  refine E_region' (L:=[0,1,2,3,4]) rfl ?_
  refine xmv ?_
  refine x_call rfl rfl rfl rfl rfl ca_90 (c_slices_Clone___int_int_ xs hn) ?_
  rintro r S ⟨rfl,rfl⟩
  refine x_pure rfl rfl rfl (L_build rfl bd_70 rfl rfl) ?_
  refine x_alloc rfl rfl rfl rfl za_70 ?_
  refine EOps_go rfl rfl (EOp_store rfl rfl rfl (xb1 ty_70) ?_)
  refine EOps_nil ?_
  refine E_seq ?_
  refine E_seq ?_
  refine E_region' (L:=[0,1,2]) rfl ?_
  refine xmv ?_
  refine x_pure rfl rfl rfl (l_len rfl sl_22) ?_
  refine xmv ?_
  refine EOps_nil ?_
  refine E_block ?_
  refine E_ghostB 2 1 3 1 rfl rfl (by decide) ?_
  refine E_ghostB 2 2 157 2 rfl rfl (by decide) ?_
  refine e_for (α:=Nat) [0,2,3,7,13] (fun k=>[(14,.c (.sc (.int .i64 (k)))),(4,.any)]) (fun k=>[.box [.sc (.slice none 0 0),.sc (.slice none 0 0),.sc (.slice none 0 0)],.row 3 1 (ints xs),.box [.sl 1 0 xs.length xs.length,.sl 3 0 k k,.sl 4 0 0 0],.row 3 1 (ints (upto k)),.row 157 2 []]) (fun k=>k≤xs.length) (fun k=>xs.length - k) (0) ?_ (by (try simp only [E.keepOf,E.get,E.ev,E.cv,E.fill',E.fill,E.slotsOf,Res.sh,AC.sh,AC.sh.shs,AV.sh,E.splice,List.map_cons,List.map_nil,List.cons_append,List.nil_append,List.append_nil,List.length_cons,List.length_nil,List.take_zero,List.drop_zero,List.take_succ_cons,List.drop_succ_cons,List.drop_nil,List.take_nil,List.set_cons_zero,List.set_cons_succ,Nat.zero_add,Nat.add_zero,Nat.reduceAdd,Nat.reduceSub,reduceIte,Nat.reduceEqDiff,E.back,E.backR,E.ix,Res.un,AC.un,AC.un.uns,AV.un,E.un,Option.map_some,Option.map_none,Option.getD_some,List.getElem?_cons_zero,List.getElem?_cons_succ,List.getElem?_nil]);rfl) ⟨.inr rfl,.inl rfl,trivial⟩ ?_
  ·simp
  rintro k hk
  refine E_seq ?_
  refine E_region' (L:=[0]) rfl ?_
  refine x_pure rfl rfl rfl (L_bin rfl rfl rfl rfl) ?_
  refine EOps_nil ?_
  refine E_seq ?_
  refine E_cond rfl (fun hc15=>?_) (fun hc15=>?_)
  ·have hc15' : k < (xs).length := by simpa [ints_len, bools_len, pairs_len, quads_len, quints_len] using hc15
   obtain⟨x,hx⟩:∃ x,(xs)[k]? = some x:=⟨_,List.getElem?_eq_getElem hc15'⟩
   refine E_skip ?_
   refine E_seq ?_
   refine E_block ?_
   refine E_seq ?_
   refine E_region' (L:=[0,1]) rfl ?_
   refine xmv ?_
   refine xas ?_
   refine EOps_nil ?_
   refine E_region' (L:=[0,1,2,3,4,5,6]) rfl ?_
   refine x_pure rfl rfl rfl (l_field rfl fo_70_1) ?_
   refine x_light rfl rfl rfl (L_load rfl (xb0 ty_22)) ?_
   refine xmv ?_
   refine EOps_go rfl rfl (Heavy.op (H_bslice_ro rfl rfl (by decide) sl_22 ty_3 za_3 ⟨rfl,by decide⟩ (by decide) rfl rfl rfl rfl ?_))
   have hul:(ints (upto k)).length=k:=by rw [ints_len,upto_len]
   refine EOps_go rfl rfl (EOp_append (news:=[[T.sc (.int .i64 (k:Int))]]) rfl rfl (by decide) sl_22 ty_3 by_3 za_3 ⟨rfl,by decide⟩ rfl (by first|rfl|assumption) xb6 xb7 xb8 xb9 ?_)
   refine x_pure rfl rfl rfl (l_field rfl fo_70_1) ?_
   refine EOps_go rfl rfl (EOp_store rfl rfl rfl (xb1 ty_22) ?_)
   refine EOps_nil ?_
   refine E_region' (L:=[0,1]) rfl ?_
   refine x_pure rfl rfl rfl xb2 ?_
   refine xmv ?_
   refine EOps_nil ?_
   refine⟨k+1,?_,?_,by simp [upto,← ints_app,ints];rfl,⟨.inr rfl,.inl rfl,trivial⟩,⟨.inr rfl,.inr rfl,.inr rfl,.inr rfl,.inr rfl,trivial⟩⟩
   ·first|omega|(dsimp only;omega)|(simp;omega)
   ·first|trivial|omega|(dsimp only;omega)|(simp;omega)
  ·have hk0 : xs.length ≤ k := by simpa [ints_len] using hc15
   have hk':k=xs.length:=by omega
   refine E_exit ?_
   refine E_seq ?_
   refine E_region' (L:=[0,1]) rfl ?_
   refine x_light rfl rfl rfl (L_load rfl (xb0 ty_70)) ?_
   refine EOps_go rfl rfl (EOp_store rfl rfl rfl (xb1 ty_70) ?_)
   refine EOps_nil ?_
   refine E_ret ?_
   rw [he]
   refine⟨_,[1,3,4],rfl,rfl,?_,?_⟩
   ·subst hk'
    simp only [crkO,upto_len]
    rfl
   ·subst hk';rfl

set_option maxRecDepth 20000 in
set_option maxHeartbeats 2000000 in
theorem c_spec_NewCracker (xs : List Int) (hn : xs.length ≤ 1048576) : EFn Tryz.prog 95 [.c (.ro (ints xs))] [] (fun r S => r = .agg (crkO 0 (newCrk xs)) ∧ S = crkR 3 157 (newCrk xs)) := by
 refine E_fn Tryz.func95 rfl (Nat.le_of_ble_eq_true rfl) ?_
 refine E_seq ?_
 refine E_region' (L:=[0]) rfl ?_
 refine x_alloc rfl rfl rfl rfl za_70 ?_
 refine EOps_nil ?_
 refine E_seq ?_
 refine E_seq ?_
 refine e_tidy [0,2] ?_
 refine E_region' (L:=[0,1,2]) rfl ?_
 refine xmv ?_
 refine x_call rfl rfl rfl rfl rfl ca_110 (c_spec_AreValues xs) ?_
 rintro r S ⟨rfl,rfl⟩
 refine x_pure rfl rfl rfl (L_not rfl rfl) ?_
 refine EOps_nil ?_
 refine E_cond rfl (fun hc7=>?_) (fun hc7=>?_)
 ·have hv : areVals xs = false := by simpa using hc7
  have he:newCrk xs=⟨[],[],[]⟩:=by rw [newCrk,hv];rfl
  refine E_seq ?_
  refine E_region' (L:=[0,1]) rfl ?_
  refine x_pure rfl rfl rfl (L_build rfl bd_70 rfl rfl) ?_
  refine EOps_go rfl rfl (EOp_store rfl rfl rfl (xb1 ty_70) ?_)
  refine EOps_nil ?_
  refine E_ghostB 0 0 3 1 rfl rfl (by decide) ?_
  refine E_ghostB 0 1 3 1 rfl rfl (by decide) ?_
  refine E_ghostB 0 2 157 2 rfl rfl (by decide) ?_
  refine E_ret ?_
  rw [he]
  exact⟨_,[1,2,3],rfl,rfl,rfl,rfl⟩
 ·have hv : areVals xs = true := by simpa using hc7
  have he:newCrk xs=⟨xs,upto xs.length,[]⟩:=by rw [newCrk,hv];rfl
  refine E_skip ?_
  refine E_seq ?_
  refine E_region' (L:=[0,1,2,3,4,5]) rfl ?_
  refine EOps_go rfl rfl (Heavy.op (H_bslice rfl rfl (by decide) sl_22 ty_3 za_3 ⟨rfl,by decide⟩ (by decide) rfl rfl rfl rfl ?_))
  refine xmv ?_
  refine EOps_go rfl rfl (EOp_append (news:=ints xs) rfl rfl (by decide) sl_22 ty_3 by_3 za_3 ⟨rfl,by decide⟩ rfl (by first|rfl|assumption) xb6 xb7 xb8 xb9 ?_)
  refine x_pure rfl rfl rfl (L_build rfl bd_70 rfl rfl) ?_
  refine x_alloc rfl rfl rfl rfl za_70 ?_
  refine EOps_go rfl rfl (EOp_store rfl rfl rfl (xb1 ty_70) ?_)
  refine EOps_nil ?_
  refine E_seq ?_
  refine E_seq ?_
  refine E_region' (L:=[0]) rfl ?_
  refine xas ?_
  refine EOps_nil ?_
  refine E_block ?_
  refine E_ghostB 2 1 3 1 rfl rfl (by decide) ?_
  refine E_ghostB 2 2 157 2 rfl rfl (by decide) ?_
  refine e_for (α:=Nat) [0,2,3,7] (fun k=>[(4,.c (.sc (.int .i64 (k))))]) (fun k=>[.box [.sc (.slice none 0 0),.sc (.slice none 0 0),.sc (.slice none 0 0)],.row 3 1 (ints xs),.box [.sl 1 0 xs.length xs.length,.sl 3 0 k k,.sl 4 0 0 0],.row 3 1 (ints (upto k)),.row 157 2 []]) (fun k=>k≤xs.length) (fun k=>xs.length - k) (0) ?_ (by simp [Res.sh,AC.sh,splice,chunk,upto,ints]) ⟨.inr rfl,trivial⟩ ?_
  ·simp
  rintro k hk
  refine E_seq ?_
  refine E_seq ?_
  refine E_region' (L:=[0,1,2,3]) rfl ?_
  refine xmv ?_
  refine xmv ?_
  refine x_pure rfl rfl rfl (l_len rfl sl_22) ?_
  refine x_pure rfl rfl rfl (L_bin rfl rfl rfl rfl) ?_
  refine EOps_nil ?_
  refine E_cond rfl (fun hc16=>?_) (fun hc16=>?_)
  ·have hc16' : k < (xs).length := by simpa [ints_len, bools_len, pairs_len, quads_len, quints_len] using hc16
   obtain⟨x,hx⟩:∃ x,(xs)[k]? = some x:=⟨_,List.getElem?_eq_getElem hc16'⟩
   refine E_skip ?_
   refine E_seq ?_
   refine E_block ?_
   refine E_region' (L:=[0,1,2,3,4,5,6]) rfl ?_
   refine x_pure rfl rfl rfl (l_field rfl fo_70_1) ?_
   refine x_light rfl rfl rfl (L_load rfl (xb0 ty_22)) ?_
   refine xmv ?_
   refine EOps_go rfl rfl (Heavy.op (H_bslice_ro rfl rfl (by decide) sl_22 ty_3 za_3 ⟨rfl,by decide⟩ (by decide) rfl rfl rfl rfl ?_))
   have hul:(ints (upto k)).length=k:=by rw [ints_len,upto_len]
   refine EOps_go rfl rfl (EOp_append (news:=[[T.sc (.int .i64 (k:Int))]]) rfl rfl (by decide) sl_22 ty_3 by_3 za_3 ⟨rfl,by decide⟩ rfl (by first|rfl|assumption) xb6 xb7 xb8 xb9 ?_)
   refine x_pure rfl rfl rfl (l_field rfl fo_70_1) ?_
   refine EOps_go rfl rfl (EOp_store rfl rfl rfl (xb1 ty_22) ?_)
   refine EOps_nil ?_
   refine E_region' (L:=[0,1,2]) rfl ?_
   refine xmv ?_
   refine x_pure rfl rfl rfl xb2 ?_
   refine xas ?_
   refine EOps_nil ?_
   refine⟨k+1,?_,?_,by simp [upto,← ints_app,ints];rfl,⟨.inr rfl,trivial⟩,⟨.inr rfl,.inr rfl,.inr rfl,.inr rfl,trivial⟩⟩
   ·first|omega|(dsimp only;omega)|(simp;omega)
   ·first|trivial|omega|(dsimp only;omega)|(simp;omega)
  ·have hk0 : xs.length ≤ k := by simpa [ints_len] using hc16
   have hk':k=xs.length:=by omega
   refine E_exit ?_
   refine E_seq ?_
   refine E_region' (L:=[0,1]) rfl ?_
   refine x_light rfl rfl rfl (L_load rfl (xb0 ty_70)) ?_
   refine EOps_go rfl rfl (EOp_store rfl rfl rfl (xb1 ty_70) ?_)
   refine EOps_nil ?_
   refine E_ret ?_
   rw [he]
   refine⟨_,[1,3,4],rfl,rfl,?_,?_⟩
   ·subst hk'
    simp only [crkO,upto_len]
    rfl
   ·subst hk';rfl

set_option maxRecDepth 20000 in
set_option maxHeartbeats 2000000 in
theorem c_spec_NewMap (xs ys : List Int) (hn : xs.length ≤ 1048576 ∧ ys.length ≤ 1048576) : EFn Tryz.prog 45 [.c (.ro (ints xs)), .c (.ro (ints ys))] [] (fun r S => r = .agg (mpO 0 (newMp xs ys)) ∧ S = mpR 3 157 (newMp xs ys)) := by
 refine E_fn Tryz.func45 rfl (Nat.le_of_ble_eq_true rfl) ?_
 refine E_seq ?_
 refine E_region' (L:=[0]) rfl ?_
 refine x_alloc rfl rfl rfl rfl za_72 ?_
 refine EOps_nil ?_
 refine E_seq ?_
 refine E_seq ?_
 refine e_tidy [0,1,4] ?_
 refine E_region' (L:=[0,1,2,3,4,5,6,7,8,9,10,11,12,13,14]) rfl ?_
 refine xmv ?_
 refine x_call rfl rfl rfl rfl rfl ca_110 (c_spec_AreValues xs) ?_
 rintro r S ⟨rfl,rfl⟩
 refine x_pure rfl rfl rfl (L_not rfl rfl) ?_
 refine xmv ?_
 refine EOps_split 8 (b:=_) rfl (fun hg8=>?_) (fun hg8=>?_)
 ·have hv : areVals xs = false := by simpa using hg8
  refine x_skip rfl rfl rfl ?_
  refine x_skip rfl rfl rfl ?_
  refine x_skip rfl rfl rfl ?_
  refine x_pure rfl rfl rfl (L_pick rfl rfl) ?_
  refine xmv ?_
  refine x_skip rfl rfl rfl ?_
  refine x_skip rfl rfl rfl ?_
  refine x_skip rfl rfl rfl ?_
  refine x_skip rfl rfl rfl ?_
  refine x_skip rfl rfl rfl ?_
  refine x_pure rfl rfl rfl (L_pick rfl rfl) ?_
  refine EOps_nil ?_
  refine E_cond rfl (fun hc19=>?_) (fun hc19=>?_)
  ·have he : newMp xs ys = ⟨⟨[], [], []⟩, [], 0⟩ := by
    unfold newMp
    rw [if_neg]
    rintro⟨q1,q2,q3⟩
    simp_all [ints_len]
   refine E_seq ?_
   refine E_region' (L:=[0,1]) rfl ?_
   refine x_pure rfl rfl rfl (L_build rfl bd_72 rfl rfl) ?_
   refine EOps_go rfl rfl (EOp_store rfl rfl rfl (xb1 ty_72) ?_)
   refine EOps_nil ?_
   refine E_ghostB 0 0 3 1 rfl rfl (by decide) ?_
   refine E_ghostB 0 1 3 1 rfl rfl (by decide) ?_
   refine E_ghostB 0 2 157 2 rfl rfl (by decide) ?_
   refine E_ghostB 0 3 3 1 rfl rfl (by decide) ?_
   refine E_ret ?_
   rw [he];exact⟨_,[1,2,3,4],rfl,rfl,rfl,rfl⟩
  ·exact Bool.noConfusion (hc19:true=false)
 ·have hv : areVals xs = true := by simpa using hg8
  refine xmv ?_
  refine x_call rfl rfl rfl rfl rfl ca_110 (c_spec_AreValues ys) ?_
  rintro r S ⟨rfl,rfl⟩
  refine x_pure rfl rfl rfl (L_not rfl rfl) ?_
  refine x_pure rfl rfl rfl (L_pick rfl rfl) ?_
  refine xmv ?_
  refine EOps_split 13 (b:=_) rfl (fun hg13=>?_) (fun hg13=>?_)
  ·have hw : areVals ys = false := by simpa using hg13
   refine x_skip rfl rfl rfl ?_
   refine x_skip rfl rfl rfl ?_
   refine x_skip rfl rfl rfl ?_
   refine x_skip rfl rfl rfl ?_
   refine x_skip rfl rfl rfl ?_
   refine x_pure rfl rfl rfl (L_pick rfl rfl) ?_
   refine EOps_nil ?_
   refine E_cond rfl (fun hc19=>?_) (fun hc19=>?_)
   ·have he : newMp xs ys = ⟨⟨[], [], []⟩, [], 0⟩ := by
     unfold newMp
     rw [if_neg]
     rintro⟨q1,q2,q3⟩
     simp_all [ints_len]
    refine E_seq ?_
    refine E_region' (L:=[0,1]) rfl ?_
    refine x_pure rfl rfl rfl (L_build rfl bd_72 rfl rfl) ?_
    refine EOps_go rfl rfl (EOp_store rfl rfl rfl (xb1 ty_72) ?_)
    refine EOps_nil ?_
    refine E_ghostB 0 0 3 1 rfl rfl (by decide) ?_
    refine E_ghostB 0 1 3 1 rfl rfl (by decide) ?_
    refine E_ghostB 0 2 157 2 rfl rfl (by decide) ?_
    refine E_ghostB 0 3 3 1 rfl rfl (by decide) ?_
    refine E_ret ?_
    rw [he];exact⟨_,[1,2,3,4],rfl,rfl,rfl,rfl⟩
   ·exact Bool.noConfusion (hc19:true=false)
  ·have hw : areVals ys = true := by simpa using hg13
   refine xmv ?_
   refine x_pure rfl rfl rfl (l_len rfl sl_22) ?_
   refine xmv ?_
   refine x_pure rfl rfl rfl (l_len rfl sl_22) ?_
   refine x_pure rfl rfl rfl (L_bin rfl rfl rfl rfl) ?_
   refine x_pure rfl rfl rfl (L_pick rfl rfl) ?_
   refine EOps_nil ?_
   refine E_cond rfl (fun hc19=>?_) (fun hc19=>?_)
   ·have he : newMp xs ys = ⟨⟨[], [], []⟩, [], 0⟩ := by
     unfold newMp
     rw [if_neg]
     rintro⟨q1,q2,q3⟩
     simp_all [ints_len]
    refine E_seq ?_
    refine E_region' (L:=[0,1]) rfl ?_
    refine x_pure rfl rfl rfl (L_build rfl bd_72 rfl rfl) ?_
    refine EOps_go rfl rfl (EOp_store rfl rfl rfl (xb1 ty_72) ?_)
    refine EOps_nil ?_
    refine E_ghostB 0 0 3 1 rfl rfl (by decide) ?_
    refine E_ghostB 0 1 3 1 rfl rfl (by decide) ?_
    refine E_ghostB 0 2 157 2 rfl rfl (by decide) ?_
    refine E_ghostB 0 3 3 1 rfl rfl (by decide) ?_
    refine E_ret ?_
    rw [he];exact⟨_,[1,2,3,4],rfl,rfl,rfl,rfl⟩
   ·have hlen : xs.length = ys.length := by simp [ints_len] at hc19; omega
    have he:newMp xs ys=⟨newCrk xs,ys,0⟩:=by unfold newMp;rw [if_pos ⟨hv,hw,hlen⟩]
    refine E_skip ?_
    refine E_seq ?_
    refine e_tidy [0,1,4,19] ?_
    refine E_region' (L:=[0,1,2,3,4,5,6]) rfl ?_
    refine xmv ?_
    refine x_call rfl rfl rfl rfl rfl ca_95 (c_spec_NewCracker xs hn.1) ?_
    rintro r S ⟨rfl,rfl⟩
    refine EOps_go rfl rfl (Heavy.op (H_bslice rfl rfl (by decide) sl_22 ty_3 za_3 ⟨rfl,by decide⟩ (by decide) rfl rfl rfl rfl ?_))
    refine xmv ?_
    refine EOps_go rfl rfl (EOp_append (news:=ints ys) rfl rfl (by decide) sl_22 ty_3 by_3 za_3 ⟨rfl,by decide⟩ rfl (by first|rfl|assumption) xb6 xb7 xb8 xb9 ?_)
    refine x_pure rfl rfl rfl (L_build rfl bd_72 rfl rfl) ?_
    refine EOps_go rfl rfl (EOp_store rfl rfl rfl (xb1 ty_72) ?_)
    refine EOps_nil ?_
    refine E_ret ?_
    rw [he]
    refine⟨_,[1,2,3,4],rfl,rfl,?_,?_⟩
    ·refine agg_eq ?_
     simp [AC.ren.rens,AC.ren,ix,splice,AC.sh.shs,AC.sh,crkO,crkR,mpO,ints_len]
     rfl
    ·rfl

set_option maxRecDepth 20000 in
set_option maxHeartbeats 2000000 in
theorem c_impl_NewMap (xs ys : List Int) (hn : xs.length ≤ 1048576 ∧ ys.length ≤ 1048576) : EFn Tryz.prog 106 [.c (.ro (ints xs)), .c (.ro (ints ys))] [] (fun r S => r = .agg (mpO 0 (newMp xs ys)) ∧ S = mpR 3 157 (newMp xs ys)) := by
 refine E_fn Tryz.func106 rfl (Nat.le_of_ble_eq_true rfl) ?_
 refine E_seq ?_
 refine E_region' (L:=[0]) rfl ?_
 refine x_alloc rfl rfl rfl rfl za_72 ?_
 refine EOps_nil ?_
 refine E_seq ?_
 refine E_seq ?_
 refine e_tidy [0,1,4] ?_
 refine E_region' (L:=[0,1,2,3,4,5,6,7,8,9,10,11,12,13,14]) rfl ?_
 refine xmv ?_
 refine x_call rfl rfl rfl rfl rfl ca_103 (c_impl_AreValues xs) ?_
 rintro r S ⟨rfl,rfl⟩
 refine x_pure rfl rfl rfl (L_not rfl rfl) ?_
 refine xmv ?_
 refine EOps_split 8 (b:=_) rfl (fun hg8=>?_) (fun hg8=>?_)
 ·have hv : areVals xs = false := by simpa using hg8
  refine x_skip rfl rfl rfl ?_
  refine x_skip rfl rfl rfl ?_
  refine x_skip rfl rfl rfl ?_
  refine x_pure rfl rfl rfl (L_pick rfl rfl) ?_
  refine xmv ?_
  refine x_skip rfl rfl rfl ?_
  refine x_skip rfl rfl rfl ?_
  refine x_skip rfl rfl rfl ?_
  refine x_skip rfl rfl rfl ?_
  refine x_skip rfl rfl rfl ?_
  refine x_pure rfl rfl rfl (L_pick rfl rfl) ?_
  refine EOps_nil ?_
  refine E_cond rfl (fun hc19=>?_) (fun hc19=>?_)
  ·have he : newMp xs ys = ⟨⟨[], [], []⟩, [], 0⟩ := by
    unfold newMp
    rw [if_neg]
    rintro⟨q1,q2,q3⟩
    simp_all [ints_len]
   refine E_seq ?_
   refine E_region' (L:=[0,1]) rfl ?_
   refine x_pure rfl rfl rfl (L_build rfl bd_72 rfl rfl) ?_
   refine EOps_go rfl rfl (EOp_store rfl rfl rfl (xb1 ty_72) ?_)
   refine EOps_nil ?_
   refine E_ghostB 0 0 3 1 rfl rfl (by decide) ?_
   refine E_ghostB 0 1 3 1 rfl rfl (by decide) ?_
   refine E_ghostB 0 2 157 2 rfl rfl (by decide) ?_
   refine E_ghostB 0 3 3 1 rfl rfl (by decide) ?_
   refine E_ret ?_
   rw [he];exact⟨_,[1,2,3,4],rfl,rfl,rfl,rfl⟩
  ·exact Bool.noConfusion (hc19:true=false)
 ·have hv : areVals xs = true := by simpa using hg8
  refine xmv ?_
  refine x_call rfl rfl rfl rfl rfl ca_103 (c_impl_AreValues ys) ?_
  rintro r S ⟨rfl,rfl⟩
  refine x_pure rfl rfl rfl (L_not rfl rfl) ?_
  refine x_pure rfl rfl rfl (L_pick rfl rfl) ?_
  refine xmv ?_
  refine EOps_split 13 (b:=_) rfl (fun hg13=>?_) (fun hg13=>?_)
  ·have hw : areVals ys = false := by simpa using hg13
   refine x_skip rfl rfl rfl ?_
   refine x_skip rfl rfl rfl ?_
   refine x_skip rfl rfl rfl ?_
   refine x_skip rfl rfl rfl ?_
   refine x_skip rfl rfl rfl ?_
   refine x_pure rfl rfl rfl (L_pick rfl rfl) ?_
   refine EOps_nil ?_
   refine E_cond rfl (fun hc19=>?_) (fun hc19=>?_)
   ·have he : newMp xs ys = ⟨⟨[], [], []⟩, [], 0⟩ := by
     unfold newMp
     rw [if_neg]
     rintro⟨q1,q2,q3⟩
     simp_all [ints_len]
    refine E_seq ?_
    refine E_region' (L:=[0,1]) rfl ?_
    refine x_pure rfl rfl rfl (L_build rfl bd_72 rfl rfl) ?_
    refine EOps_go rfl rfl (EOp_store rfl rfl rfl (xb1 ty_72) ?_)
    refine EOps_nil ?_
    refine E_ghostB 0 0 3 1 rfl rfl (by decide) ?_
    refine E_ghostB 0 1 3 1 rfl rfl (by decide) ?_
    refine E_ghostB 0 2 157 2 rfl rfl (by decide) ?_
    refine E_ghostB 0 3 3 1 rfl rfl (by decide) ?_
    refine E_ret ?_
    rw [he];exact⟨_,[1,2,3,4],rfl,rfl,rfl,rfl⟩
   ·exact Bool.noConfusion (hc19:true=false)
  ·have hw : areVals ys = true := by simpa using hg13
   refine xmv ?_
   refine x_pure rfl rfl rfl (l_len rfl sl_22) ?_
   refine xmv ?_
   refine x_pure rfl rfl rfl (l_len rfl sl_22) ?_
   refine x_pure rfl rfl rfl (L_bin rfl rfl rfl rfl) ?_
   refine x_pure rfl rfl rfl (L_pick rfl rfl) ?_
   refine EOps_nil ?_
   refine E_cond rfl (fun hc19=>?_) (fun hc19=>?_)
   ·have he : newMp xs ys = ⟨⟨[], [], []⟩, [], 0⟩ := by
     unfold newMp
     rw [if_neg]
     rintro⟨q1,q2,q3⟩
     simp_all [ints_len]
    refine E_seq ?_
    refine E_region' (L:=[0,1]) rfl ?_
    refine x_pure rfl rfl rfl (L_build rfl bd_72 rfl rfl) ?_
    refine EOps_go rfl rfl (EOp_store rfl rfl rfl (xb1 ty_72) ?_)
    refine EOps_nil ?_
    refine E_ghostB 0 0 3 1 rfl rfl (by decide) ?_
    refine E_ghostB 0 1 3 1 rfl rfl (by decide) ?_
    refine E_ghostB 0 2 157 2 rfl rfl (by decide) ?_
    refine E_ghostB 0 3 3 1 rfl rfl (by decide) ?_
    refine E_ret ?_
    rw [he];exact⟨_,[1,2,3,4],rfl,rfl,rfl,rfl⟩
   ·have hlen : xs.length = ys.length := by simp [ints_len] at hc19; omega
    have he:newMp xs ys=⟨newCrk xs,ys,0⟩:=by unfold newMp;rw [if_pos ⟨hv,hw,hlen⟩]
    refine E_skip ?_
    refine E_seq ?_
    refine e_tidy [0,1,4,19] ?_
    refine E_region' (L:=[0,1,2,3,4,5]) rfl ?_
    refine xmv ?_
    refine x_call rfl rfl rfl rfl rfl ca_143 (c_impl_NewCracker xs hn.1) ?_
    rintro r S ⟨rfl,rfl⟩
    refine xmv ?_
    refine x_call rfl rfl rfl rfl rfl ca_90 (c_slices_Clone___int_int_ ys hn.2) ?_
    rintro r S ⟨rfl,rfl⟩
    refine x_pure rfl rfl rfl (L_build rfl bd_72 rfl rfl) ?_
    refine EOps_go rfl rfl (EOp_store rfl rfl rfl (xb1 ty_72) ?_)
    refine EOps_nil ?_
    refine E_ret ?_
    rw [he];exact⟨_,[1,2,3,4],rfl,rfl,rfl,rfl⟩

/-- The numbers that a mark leaves. -/
def seqF (q : Int) : Nat → List Int
 | 0=>[]
 | n+1=>seqF q n++[q+n]
theorem seqF_len (q : Int) : ∀ n, (seqF q n).length = n
 | 0=>rfl
 | n+1=>by simp [seqF,seqF_len q n]
theorem seqF_at (q : Int) : ∀ (n k : Nat), k < n → (seqF q n)[k]? = some (q + k)
 | n + 1, k, h => by
  unfold seqF
  rcases Nat.lt_or_ge k n with h'|h'
  ·rw [List.getElem?_append_left (by rw [seqF_len];exact h')];exact seqF_at q n k h'
  ·have : k = n := by omega
   subst this
   rw [List.getElem?_append_right (by rw [seqF_len];omega),seqF_len];simp
def seqP (q : Int) : Nat → List (Int × Int)
 | 0=>[]
 | n+1=>seqP q n++[(q+2*n,q+2*n+1)]
theorem seqP_len (q : Int) : ∀ n, (seqP q n).length = n
 | 0=>rfl
 | n+1=>by simp [seqP,seqP_len q n]
theorem over_at {α : Type} {l xs : List α} {k : Nat} (hl : l.length = k) (hk : k < xs.length) : ∃ x, xs[k]? = some x ∧ (l ++ xs.drop k)[k]? = some x ∧ ∀ y, (l ++ xs.drop k).set k y = (l ++ [y]) ++ xs.drop (k + 1) := by
 refine⟨xs[k],List.getElem?_eq_getElem hk,?_,fun y=>?_⟩
 ·rw [List.getElem?_append_right (by omega),hl,Nat.sub_self,List.getElem?_drop];simp [hk]
 ·rw [List.set_append,if_neg (by omega),hl,Nat.sub_self,List.drop_eq_getElem_cons hk,List.set_cons_zero,List.append_assoc];rfl

end Go.Proofs.YthlhmpknngidmaaGreat.E
