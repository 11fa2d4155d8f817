/- Walks through functions, by program out of the session's annotations. -/
import Derived.Test.YtjbbjicochipeaaGreatA182
import Derived.Test.YtjbbjicochipeaaGreatA183
import Derived.Test.YtjbbjicochipeaaGreatA45
import Derived.Test.YtjbbjicochipeaaGreatF4
namespace Go.Proofs.YtjbbjicochipeaaGreat.E
open Go Go.RowKit Go.Proofs
set_option linter.unusedVariables false
set_option linter.unusedSimpArgs false

def nest (ls:List (List Int)):List (List T):=ls.map fun l=>[.sl (ints l)]
theorem nest_len (ls:List (List Int)):(nest ls).length=ls.length:=by simp [nest]
theorem nest_at (ls : List (List Int)) (v : Value) : (nest ls ++ vrow [v])[ls.length]? = some [.sc v] := by
 rw [List.getElem?_append_right (by rw [nest_len];exact Nat.le_refl _),nest_len,Nat.sub_self];rfl
theorem nest_push (ls : List (List Int)) (v : Value) (a : List Int) : (nest ls ++ vrow [v]).set ls.length [.sl (ints a)] = nest (ls ++ [a]) := by
 rw [List.set_append_right _ _ (by rw [nest_len];exact Nat.le_refl _),nest_len,Nat.sub_self,nest,nest,List.map_append];rfl
/-- Column, settings, answers and costs after the first k queries. -/
def rqN (xs : List Int) (s : Sett) (rs : List (Int × Int)) : Nat → Crk × Sett × List (List Int) × List Int
 | 0=>(newCrk xs,s,[],[])
 | k + 1 => ((sw2 (rqN xs s rs k).1 (rqN xs s rs k).2.1 (rs.getD k (0, 0))).1, (sw2 (rqN xs s rs k).1 (rqN xs s rs k).2.1 (rs.getD k (0, 0))).2.1,
   (rqN xs s rs k).2.2.1++[swR (sw2 (rqN xs s rs k).1 (rqN xs s rs k).2.1 (rs.getD k (0,0))).1 (rs.getD k (0,0))],
   (rqN xs s rs k).2.2.2++[totW (sw1 (rqN xs s rs k).1 (rqN xs s rs k).2.1 (rs.getD k (0,0))).2.2+totW (sw2 (rqN xs s rs k).1 (rqN xs s rs k).2.1 (rs.getD k (0,0))).2.2])
theorem rq_next {xs : List Int} {s : Sett} {rs : List (Int × Int)} {k : Nat} {c : Crk} {t : Sett} {ls : List (List Int)} {cs : List Int} {r : Int × Int} (hrk : rs[k]? = some r) (h : rqN xs s rs k = (c, t, ls, cs)) :
  rqN xs s rs (k+1)=((sw2 c t r).1,(sw2 c t r).2.1,ls++[swR (sw2 c t r).1 r],cs++[totW (sw1 c t r).2.2+totW (sw2 c t r).2.2]):=by
 have hgd:rs.getD k (0,0)=r:=by rw [List.getD_eq_getElem?_getD,hrk];rfl
 rw [rqN,h,hgd]
structure RqOk (c : Crk) (t : Sett) (ls : List (List Int)) (cs : List Int) (k : Nat) : Prop where
 oc:isCrk c=true
 os:isSet t=true
 ll:ls.length=k
 lc:cs.length=k
theorem rq_ok {xs : List Int} {s : Sett} {rs : List (Int × Int)} (hx : areVals xs = true) (hs : isSet s = true) (hr : ∀ r ∈ rs, isRng r = true) : ∀ (k : Nat), k ≤ rs.length → ∀ {c t ls cs}, rqN xs s rs k = (c, t, ls, cs) → RqOk c t ls cs k
 | 0, _, c, t, ls, cs, h => by
  have h1:(newCrk xs,s,([]:List (List Int)),([]:List Int))=(c,t,ls,cs):=h
  cases h1
  exact⟨newCrk_ok hx,hs,rfl,rfl⟩
 | k + 1, hk, c, t, ls, cs, h => by
  obtain⟨r,hrk⟩:=at_lt (l:=rs) (k:=k) (by omega)
  generalize hN:rqN xs s rs k=P at *
  obtain⟨c1,t1,ls1,cs1⟩:=P
  have h1:=rq_ok hx hs hr k (by omega) hN
  have h2:=rq_next hrk hN
  rw [h] at h2
  have hw:=sw_ok h1.oc h1.os (hr r (List.mem_of_getElem? hrk))
  cases h2
  exact⟨hw.c2,hw.s2,by simp [h1.ll],by simp [h1.lc]⟩
def rqC (xs:List Int) (s:Sett) (rs:List (Int × Int)):Crk:=if areQ xs s rs=true then (rqN xs s rs rs.length).1 else ⟨[],[],[]⟩
def rqL (xs:List Int) (s:Sett) (rs:List (Int × Int)):List (List Int):=if areQ xs s rs=true then (rqN xs s rs rs.length).2.2.1 else []
def rqK (xs:List Int) (s:Sett) (rs:List (Int × Int)):List Int:=if areQ xs s rs=true then (rqN xs s rs rs.length).2.2.2 else []

set_option maxRecDepth 20000 in
set_option maxHeartbeats 8000000 in
theorem c_impl_queriesA (xs : List Int) (s : Sett) (rs : List (Int × Int)) (hx : areVals xs = true) (hs : isSet s = true) (hl : rs.length ≤ 30) (hr : ∀ r ∈ rs, isRng r = true) : EFn Tryz.prog 38 [.c (.ro (ints xs)), .agg (setC s), .c (.ro (pairs rs)), .c (.fn 39 [])] [] (fun y S => y = .tup [(true, crkO 0 (rqN xs s rs rs.length).1), (false, [.sl 3 0 (rqN xs s rs rs.length).2.2.1.length (rqN xs s rs rs.length).2.2.1.length]), (false, [.sl 4 0 (rqN xs s rs rs.length).2.2.2.length (rqN xs s rs rs.length).2.2.2.length])] ∧ S = crkR 3 87 (rqN xs s rs rs.length).1 ++ [.row 22 1 (nest (rqN xs s rs rs.length).2.2.1), .row 3 1 (ints (rqN xs s rs rs.length).2.2.2)]) := by
 refine E_fn Tryz.func38 rfl (Nat.le_of_ble_eq_true rfl) ?_
 refine E_G (n:=0) rfl ?_
 have hxl:=areVals_parts hx
 have hc0:=crk_lens (newCrk_ok hx)
 refine G_seq ?_
 refine G_region' (L:=[0,1,2,3,4]) rfl ?_
 refine x_box rfl rfl rfl rfl rfl ?_
 refine x_box rfl rfl rfl rfl rfl ?_
 refine x_alloc rfl rfl rfl rfl za_42 ?_
 refine xas ?_
 refine xas ?_
 refine EOps_nil ?_
 refine G_seq ?_
 refine g_tidy_A37_0 [0,1,2,3,5,7,8,9,10] ?_
 refine G_region' (L:=[0,1,2,3,4,5,6,7]) rfl ?_
 refine xmv ?_
 refine x_call rfl rfl rfl rfl rfl ca_46 (c_impl_NewCracker xs (by omega)) ?_
 rintro r S ⟨rfl,rfl⟩
 refine EOps_go rfl rfl (Heavy.op (H_bslice rfl rfl (by decide) sl_43 ty_22 za_22 ⟨rfl,by decide⟩ (by decide) rfl rfl rfl rfl ?_))
 refine EOps_go rfl rfl (Heavy.op (H_bslice rfl rfl (by decide) sl_22 ty_3 za_3 ⟨rfl,by decide⟩ (by decide) rfl rfl rfl rfl ?_))
 refine x_alloc rfl rfl rfl rfl za_42 ?_
 refine EOps_go rfl rfl (EOp_store rfl rfl rfl (xb1 ty_42) ?_)
 refine xas ?_
 refine xas ?_
 refine EOps_nil ?_
 refine G_seq ?_
 refine G_seq ?_
 refine G_region' (L:=[0,1,2]) rfl ?_
 refine xmv ?_
 refine p_ rfl (l_len rfl sl_31) ?_
 refine xmv ?_
 refine EOps_nil ?_
 refine G_block ?_
 refine G_drop [0,1,2,3,5,7,8,9,10,11,12,13,22,23,24] [0,1,2,8,6,7,3,4,5] rfl rfl rfl ?_
 refine g_forD_A37_1 (α:=Nat × Crk × Sett × List (List Int) × List Int) [0,1,2,3,5,7,8,9,10,11,22,23] (fun (k,cur,st,ls,cs)=>[(24,.c (.sc (.int .i64 (k)))),(12,.c (.sl 4 0 ls.length ls.length)),(13,.c (.sl 5 0 cs.length cs.length))]) (fun (k,cur,st,ls,cs)=>[.box (setC st),.box [.fn 39 []],.box [.sc (.slice none 0 0),.sc (.slice none 0 0),.sc (.slice none 0 0)],.box (crkO 6 cur),.row 22 1 (nest ls),.row 3 1 (ints cs),.row 3 1 (ints cur.vals),.row 3 1 (ints cur.rows),.row 87 2 (pairs cur.piv)]) (fun (k,cur,st,ls,cs)=>k≤rs.length∧rqN xs s rs k=(cur,st,ls,cs)) (fun (k,cur,st,ls,cs)=>rs.length - k) ((0,newCrk xs,s,[],[])) ?_ (rfl) ⟨.inr rfl,.inr rfl,.inr rfl,trivial⟩ ?_
 ·exact⟨Nat.zero_le _,rfl⟩
 rintro⟨k,cur,st,ls,cs⟩ ⟨hk,hst⟩
 dsimp only at *
 refine G_seq ?_
 refine G_region' (L:=[0]) rfl ?_
 refine p_ rfl (L_bin rfl rfl rfl rfl) ?_
 refine EOps_nil ?_
 refine G_seq ?_
 refine G_cond rfl (fun hc25=>?_) (fun hc25=>?_)
 ·have hc25' : k < (rs).length := by simpa [ints_len, bools_len, pairs_len, quads_len, quints_len] using hc25
  obtain⟨r,hrk⟩:∃ x,(rs)[k]? = some x:=⟨_,List.getElem?_eq_getElem hc25'⟩
  have hok:=rq_ok hx hs hr k hk hst
  have okc:=hok.oc
  have oks:=hok.os
  have okl:=hok.ll
  have okk:=hok.lc
  have hnx:=rq_next hrk hst
  have hrr:=hr r (List.mem_of_getElem? hrk)
  have hvv:=nest_len ls
  refine G_skip ?_
  refine G_seq ?_
  refine G_block ?_
  refine G_seq ?_
  refine G_region' (L:=[0,1,2,3,4,5,6]) rfl ?_
  refine xmv ?_
  refine p_ rfl (L_index rfl rfl (xii sl_31 ty_49)) ?_
  refine l_ rfl (L_load rfl (xb0 ty_49)) ?_
  refine x_alloc rfl rfl rfl rfl za_3 ?_
  refine x_alloc rfl rfl rfl rfl za_49 ?_
  refine EOps_go rfl rfl (EOp_store rfl rfl rfl (xb1 ty_3) ?_)
  refine EOps_go rfl rfl (EOp_store rfl rfl rfl (xb1 ty_49) ?_)
  refine EOps_nil ?_
  refine G_seq ?_
  refine G_region' (L:=[0]) rfl ?_
  refine xas ?_
  refine EOps_nil ?_
  refine G_seq ?_
  refine G_region' (L:=[0]) rfl ?_
  refine xas ?_
  refine EOps_nil ?_
  refine G_seq ?_
  refine g_tidy_A37_0 [0,1,2,3,5,7,8,9,10,11,12,13,14,15,16,17,22,23,24,25] ?_
  refine G_region' (L:=[0,1,2,3,4,5,6,7,8,9,10,11,12,13]) rfl ?_
  refine l_ rfl (L_load rfl (xb0 ty_42)) ?_
  refine l_ rfl (L_load rfl (xb0 ty_29)) ?_
  refine l_ rfl (L_load rfl (xb0 ty_49)) ?_
  refine p_ rfl (L_func rfl rfl) ?_
  refine x_frame [6,7,8,1,9] rfl rfl rfl rfl rfl ca_65 rfl (c_impl_selectingA (k:Nat) cur st r okc oks hrr) ?_
  rintro r S ⟨r0,S0,⟨rfl,rfl⟩,rfl,rfl⟩
  generalize totW (sw1 cur st r).2.2+totW (sw2 cur st r).2.2=nn at *
  generalize swR (sw2 cur st r).1 r=aa at *
  generalize sw2 cur st r=P at *
  obtain⟨c2,st2,l2⟩:=P
  dsimp only at *
  refine xmv ?_
  refine p_ rfl (L_extract rfl rfl) ?_
  refine p_ rfl (L_extract rfl rfl) ?_
  refine p_ rfl (L_extract rfl rfl) ?_
  refine p_ rfl (L_extract rfl rfl) ?_
  refine EOps_go rfl rfl (EOp_store rfl rfl rfl (xb1 ty_42) ?_)
  refine EOps_go rfl rfl (EOp_store rfl rfl rfl (xb1 ty_29) ?_)
  refine xas ?_
  refine xas ?_
  refine EOps_nil ?_
  refine (X_pin 16 rfl).G fun v=>?_
  refine G_region' (L:=[0,1,2,3,4,5,6,7,8,9]) rfl ?_
  refine xmv ?_
  refine xmv ?_
  refine EOps_go rfl rfl (Heavy.op (H_bslice_ro rfl rfl (by decide) sl_43 ty_22 za_22 ⟨rfl,by decide⟩ (by decide) rfl rfl rfl rfl ?_))
  refine EOps_go rfl rfl (EOp_append (news:=(vrow [v])) rfl rfl (by decide) sl_43 ty_22 by_22 za_22 ⟨rfl,by decide⟩ rfl (by first|rfl|assumption) xb7 xb8 (by exact vrow_row _) (by simp [vrow_len];omega) ?_)
  refine xmv ?_
  refine xmv ?_
  refine EOps_go rfl rfl (Heavy.op (H_bslice_ro rfl rfl (by decide) sl_22 ty_3 za_3 ⟨rfl,by decide⟩ (by decide) rfl rfl rfl rfl ?_))
  refine EOps_go rfl rfl (EOp_append (news:=(ints [nn])) rfl rfl (by decide) sl_22 ty_3 by_3 za_3 ⟨rfl,by decide⟩ rfl (by first|rfl|assumption) xb7 xb8 xb9 xb10 ?_)
  refine xas ?_
  refine xas ?_
  refine EOps_nil ?_
  refine (X_absorb 4 ls.length 0 15 14 rfl (nest_at ls v) rfl rfl rfl (ints_len _) (by decide) rfl).G fun _=>?_
  refine G_region' (L:=[0,1]) rfl ?_
  refine p_ rfl xb3 ?_
  refine xmv ?_
  refine EOps_nil ?_
  refine⟨[0,1,2,3,4,5,11,12,13],rfl,(k+1,c2,st2,ls++[aa],cs++[nn]),?_,?_,by rw [← nest_push ls v aa,← ints_app];rfl,⟨.inr rfl,.inr ((by rw [show (ls++[aa]).length=ls.length+(vrow [v]).length by simp [vrow_len]]<;>rfl)),.inr ((by rw [show (cs++[nn]).length=cs.length+(ints [nn]).length by simp [ints_len]]<;>rfl)),trivial⟩,⟨.inr rfl,.inr rfl,.inr rfl,.inr rfl,.inr rfl,.inr rfl,.inr rfl,.inr rfl,.inr rfl,.inr rfl,.inr rfl,.inr rfl,trivial⟩⟩
  ·first|omega|(dsimp only;omega)|(simp;omega)
  exact⟨by omega,hnx⟩
 have hk' : rs.length ≤ k := by simpa [pairs_len] using hc25
 obtain rfl:k=rs.length:=by omega
 refine G_exit ?_
 refine G_seq ?_
 refine G_region' (L:=[0,1,2,3,4,5]) rfl ?_
 refine l_ rfl (L_load rfl (xb0 ty_42)) ?_
 refine xmv ?_
 refine xmv ?_
 refine EOps_go rfl rfl (EOp_store rfl rfl rfl (xb1 ty_42) ?_)
 refine xas ?_
 refine xas ?_
 refine EOps_nil ?_
 refine G_ret ?_
 rw [hst]
 exact⟨_,[6,7,8,4,5],rfl,rfl,rfl,rfl⟩

set_option maxRecDepth 20000 in
set_option maxHeartbeats 8000000 in
theorem c_impl_RunQueries (xs : List Int) (s : Sett) (rs : List (Int × Int)) : EFn Tryz.prog 15 [.c (.ro (ints xs)), .agg (setC s), .c (.ro (pairs rs))] [] (fun y S => y = .tup [(true, crkO 0 (rqC xs s rs)), (false, [.sl 3 0 (rqL xs s rs).length (rqL xs s rs).length]), (false, [.sl 4 0 (rqK xs s rs).length (rqK xs s rs).length])] ∧ S = crkR 3 87 (rqC xs s rs) ++ [.row 22 1 (nest (rqL xs s rs)), .row 3 1 (ints (rqK xs s rs))]) := by
 refine E_fn Tryz.func15 rfl (Nat.le_of_ble_eq_true rfl) ?_
 refine E_G (n:=0) rfl ?_
 refine G_seq ?_
 refine G_region' (L:=[0,1,2,3]) rfl ?_
 refine x_box rfl rfl rfl rfl rfl ?_
 refine x_alloc rfl rfl rfl rfl za_42 ?_
 refine xas ?_
 refine xas ?_
 refine EOps_nil ?_
 refine G_seq ?_
 refine G_seq ?_
 refine g_tidy_A37_0 [0,1,2,4,6,7,8] ?_
 refine G_region' (L:=[0,1,2,3,4]) rfl ?_
 refine xmv ?_
 refine l_ rfl (L_load rfl (xb0 ty_29)) ?_
 refine xmv ?_
 refine x_call rfl rfl rfl rfl rfl ca_33 (c_impl_areQueries xs s rs) ?_
 rintro r S ⟨rfl,rfl⟩
 refine p_ rfl (L_not rfl rfl) ?_
 refine EOps_nil ?_
 refine G_cond rfl (fun hc13=>?_) (fun hc13=>?_)
 ·have h : areQ xs s rs = false := by simpa using hc13
  have hL:rqC xs s rs=⟨[],[],[]⟩∧rqL xs s rs=[]∧rqK xs s rs=[]:=by simp [rqC,rqL,rqK,h]
  refine G_seq ?_
  refine G_region' (L:=[0,1,2,3]) rfl ?_
  refine p_ rfl (L_build rfl bd_42 rfl rfl) ?_
  refine EOps_go rfl rfl (EOp_store rfl rfl rfl (xb1 ty_42) ?_)
  refine xas ?_
  refine xas ?_
  refine EOps_nil ?_
  refine G_ghostB 1 0 3 1 rfl rfl (by decide) ?_
  refine G_ghostB 1 1 3 1 rfl rfl (by decide) ?_
  refine G_ghostB 1 2 87 2 rfl rfl (by decide) ?_
  refine G_ghostS 7 22 1 rfl (by decide) ?_
  refine G_ghostS 8 3 1 rfl (by decide) ?_
  refine G_ret ?_
  rw [hL.1,hL.2.1,hL.2.2]
  exact⟨_,[2,3,4,5,6],rfl,rfl,rfl,rfl⟩
 have hq : areQ xs s rs = true := by simpa using hc13
 have hL:rqC xs s rs=(rqN xs s rs rs.length).1∧rqL xs s rs=(rqN xs s rs rs.length).2.2.1∧rqK xs s rs=(rqN xs s rs rs.length).2.2.2:=by simp [rqC,rqL,rqK,hq]
 have hq4:=areQ_parts hq
 refine G_skip ?_
 refine G_seq ?_
 refine g_tidy_A37_0 [0,1,2,4,6,7,8,13] ?_
 refine G_region' (L:=[0,1,2,3,4,5,6,7,8,9]) rfl ?_
 refine xmv ?_
 refine l_ rfl (L_load rfl (xb0 ty_29)) ?_
 refine xmv ?_
 refine x_call rfl rfl rfl rfl rfl ca_38 (c_impl_queriesA xs s rs hq4.1 hq4.2.1 hq4.2.2.1 hq4.2.2.2) ?_
 rintro r S ⟨rfl,rfl⟩
 refine p_ rfl (L_extract rfl rfl) ?_
 refine p_ rfl (L_extract rfl rfl) ?_
 refine p_ rfl (L_extract rfl rfl) ?_
 refine EOps_go rfl rfl (EOp_store rfl rfl rfl (xb1 ty_42) ?_)
 refine xas ?_
 refine xas ?_
 refine EOps_nil ?_
 refine G_ret ?_
 rw [hL.1,hL.2.1,hL.2.2]
 exact⟨_,[2,3,4,5,6],rfl,rfl,rfl,rfl⟩

set_option maxRecDepth 20000 in
set_option maxHeartbeats 8000000 in
theorem c_spec_RunQueries (xs : List Int) (s : Sett) (rs : List (Int × Int)) (hxb : xs.length ≤ 1048576) : EFn Tryz.prog 16 [.c (.ro (ints xs)), .agg (setC s), .c (.ro (pairs rs))] [] (fun y S => y = .tup [(true, crkO 0 (rqC xs s rs)), (false, [.sl 3 0 (rqL xs s rs).length (rqL xs s rs).length]), (false, [.sl 4 0 (rqK xs s rs).length (rqK xs s rs).length])] ∧ S = crkR 3 87 (rqC xs s rs) ++ [.row 22 1 (nest (rqL xs s rs)), .row 3 1 (ints (rqK xs s rs))]) := by
 refine E_fn Tryz.func16 rfl (Nat.le_of_ble_eq_true rfl) ?_
 refine E_G (n:=0) rfl ?_
 refine G_seq ?_
 refine G_region' (L:=[0,1,2,3]) rfl ?_
 refine x_box rfl rfl rfl rfl rfl ?_
 refine x_alloc rfl rfl rfl rfl za_42 ?_
 refine xas ?_
 refine xas ?_
 refine EOps_nil ?_
 refine G_seq ?_
 refine g_tidy_A37_0 [0,1,2,4,6,7,8] ?_
 refine G_region' (L:=[0,1,2,3]) rfl ?_
 refine xmv ?_
 refine x_call rfl rfl rfl rfl rfl ca_24 (c_spec_NewCracker xs (by omega)) ?_
 rintro r S ⟨rfl,rfl⟩
 refine x_alloc rfl rfl rfl rfl za_42 ?_
 refine EOps_go rfl rfl (EOp_store rfl rfl rfl (xb1 ty_42) ?_)
 refine EOps_nil ?_
 refine G_seq ?_
 refine G_region' (L:=[0,1]) rfl ?_
 refine EOps_go rfl rfl (Heavy.op (H_bslice rfl rfl (by decide) sl_43 ty_22 za_22 ⟨rfl,by decide⟩ (by decide) rfl rfl rfl rfl ?_))
 refine xas ?_
 refine EOps_nil ?_
 refine G_seq ?_
 refine G_region' (L:=[0,1]) rfl ?_
 refine EOps_go rfl rfl (Heavy.op (H_bslice rfl rfl (by decide) sl_22 ty_3 za_3 ⟨rfl,by decide⟩ (by decide) rfl rfl rfl rfl ?_))
 refine xas ?_
 refine EOps_nil ?_
 refine G_seq ?_
 refine G_seq ?_
 refine g_tidy_A37_0 [0,1,2,4,6,7,8,9,10,11] ?_
 refine G_region' (L:=[0,1,2,3,4,5,6,7,8,9,10,11,12]) rfl ?_
 refine xmv ?_
 refine x_call rfl rfl rfl rfl rfl ca_27 (c_spec_AreValues xs) ?_
 rintro r S ⟨rfl,rfl⟩
 refine p_ rfl (L_not rfl rfl) ?_
 refine xmv ?_
 refine EOps_split 25 (b:=_) rfl (fun hg25=>?_) (fun hg25=>?_)
 ·refine s_ rfl ?_
  refine s_ rfl ?_
  refine s_ rfl ?_
  refine p_ rfl (L_pick rfl rfl) ?_
  refine xmv ?_
  refine s_ rfl ?_
  refine s_ rfl ?_
  refine s_ rfl ?_
  refine p_ rfl (L_pick rfl rfl) ?_
  refine EOps_nil ?_
  refine G_cond rfl (fun hc34=>?_) (fun hc34=>?_)
  ·have h : areQ xs s rs = false := by simp only [areQ]; simp_all
   have hL:rqC xs s rs=⟨[],[],[]⟩∧rqL xs s rs=[]∧rqK xs s rs=[]:=by simp [rqC,rqL,rqK,h]
   refine G_seq ?_
   refine G_region' (L:=[0,1,2,3,4,5]) rfl ?_
   refine p_ rfl (L_build rfl bd_42 rfl rfl) ?_
   refine xmv ?_
   refine xmv ?_
   refine EOps_go rfl rfl (EOp_store rfl rfl rfl (xb1 ty_42) ?_)
   refine xas ?_
   refine xas ?_
   refine EOps_nil ?_
   refine G_ghostB 1 0 3 1 rfl rfl (by decide) ?_
   refine G_ghostB 1 1 3 1 rfl rfl (by decide) ?_
   refine G_ghostB 1 2 87 2 rfl rfl (by decide) ?_
   refine G_ret ?_
   rw [hL.1,hL.2.1,hL.2.2]
   exact⟨_,[8,9,10,6,7],rfl,rfl,rfl,rfl⟩
  exact Bool.noConfusion (hc34:true=false)
 refine l_ rfl (L_load rfl (xb2 ty_29)) ?_
 refine x_call rfl rfl rfl rfl rfl ca_28 (c_spec_IsSettings s) ?_
 rintro r S ⟨rfl,rfl⟩
 refine p_ rfl (L_not rfl rfl) ?_
 refine p_ rfl (L_pick rfl rfl) ?_
 refine xmv ?_
 refine EOps_split 30 (b:=_) rfl (fun hg30=>?_) (fun hg30=>?_)
 ·refine s_ rfl ?_
  refine s_ rfl ?_
  refine s_ rfl ?_
  refine p_ rfl (L_pick rfl rfl) ?_
  refine EOps_nil ?_
  refine G_cond rfl (fun hc34=>?_) (fun hc34=>?_)
  ·have h : areQ xs s rs = false := by simp only [areQ]; simp_all
   have hL:rqC xs s rs=⟨[],[],[]⟩∧rqL xs s rs=[]∧rqK xs s rs=[]:=by simp [rqC,rqL,rqK,h]
   refine G_seq ?_
   refine G_region' (L:=[0,1,2,3,4,5]) rfl ?_
   refine p_ rfl (L_build rfl bd_42 rfl rfl) ?_
   refine xmv ?_
   refine xmv ?_
   refine EOps_go rfl rfl (EOp_store rfl rfl rfl (xb1 ty_42) ?_)
   refine xas ?_
   refine xas ?_
   refine EOps_nil ?_
   refine G_ghostB 1 0 3 1 rfl rfl (by decide) ?_
   refine G_ghostB 1 1 3 1 rfl rfl (by decide) ?_
   refine G_ghostB 1 2 87 2 rfl rfl (by decide) ?_
   refine G_ret ?_
   rw [hL.1,hL.2.1,hL.2.2]
   exact⟨_,[8,9,10,6,7],rfl,rfl,rfl,rfl⟩
  exact Bool.noConfusion (hc34:true=false)
 refine xmv ?_
 refine x_call rfl rfl rfl rfl rfl ca_29 (c_spec_l8Ranges rs) ?_
 rintro r S ⟨rfl,rfl⟩
 refine p_ rfl (L_not rfl rfl) ?_
 refine p_ rfl (L_pick rfl rfl) ?_
 refine EOps_nil ?_
 refine G_cond rfl (fun hc34=>?_) (fun hc34=>?_)
 ·have h : areQ xs s rs = false := by simp only [areQ]; simp_all
  have hL:rqC xs s rs=⟨[],[],[]⟩∧rqL xs s rs=[]∧rqK xs s rs=[]:=by simp [rqC,rqL,rqK,h]
  refine G_seq ?_
  refine G_region' (L:=[0,1,2,3,4,5]) rfl ?_
  refine p_ rfl (L_build rfl bd_42 rfl rfl) ?_
  refine xmv ?_
  refine xmv ?_
  refine EOps_go rfl rfl (EOp_store rfl rfl rfl (xb1 ty_42) ?_)
  refine xas ?_
  refine xas ?_
  refine EOps_nil ?_
  refine G_ghostB 1 0 3 1 rfl rfl (by decide) ?_
  refine G_ghostB 1 1 3 1 rfl rfl (by decide) ?_
  refine G_ghostB 1 2 87 2 rfl rfl (by decide) ?_
  refine G_ret ?_
  rw [hL.1,hL.2.1,hL.2.2]
  exact⟨_,[8,9,10,6,7],rfl,rfl,rfl,rfl⟩
 have hq : areQ xs s rs = true := by simp only [areQ]; simp_all
 have hL:rqC xs s rs=(rqN xs s rs rs.length).1∧rqL xs s rs=(rqN xs s rs rs.length).2.2.1∧rqK xs s rs=(rqN xs s rs rs.length).2.2.2:=by simp [rqC,rqL,rqK,hq]
 have hq4:=areQ_parts hq
 have hxl:=areVals_parts hq4.1
 refine G_skip ?_
 refine G_seq ?_
 refine G_region' (L:=[0,1,2]) rfl ?_
 refine l_ rfl (L_load rfl (xb0 ty_29)) ?_
 refine x_alloc rfl rfl rfl rfl za_29 ?_
 refine EOps_go rfl rfl (EOp_store rfl rfl rfl (xb1 ty_29) ?_)
 refine EOps_nil ?_
 refine G_seq ?_
 refine G_seq ?_
 refine G_region' (L:=[0]) rfl ?_
 refine xas ?_
 refine EOps_nil ?_
 refine G_block ?_
 refine G_drop [0,1,2,4,6,7,8,9,10,11,12,13] [0,1,5,8,6,7,2,3,4] rfl rfl rfl ?_
 refine g_forD_A37_1 (α:=Nat × Crk × Sett × List (List Int) × List Int) [0,1,2,4,6,7,8,9,12,34] (fun (k,cur,st,ls,cs)=>[(13,.c (.sc (.int .i64 (k)))),(10,.c (.sl 4 0 ls.length ls.length)),(11,.c (.sl 5 0 cs.length cs.length))]) (fun (k,cur,st,ls,cs)=>[.box (setC s),.box [.sc (.slice none 0 0),.sc (.slice none 0 0),.sc (.slice none 0 0)],.box (crkO 6 cur),.box (setC st),.row 22 1 (nest ls),.row 3 1 (ints cs),.row 3 1 (ints cur.vals),.row 3 1 (ints cur.rows),.row 87 2 (pairs cur.piv)]) (fun (k,cur,st,ls,cs)=>k≤rs.length∧rqN xs s rs k=(cur,st,ls,cs)) (fun (k,cur,st,ls,cs)=>rs.length - k) ((0,newCrk xs,s,[],[])) ?_ (rfl) ⟨.inr rfl,.inr rfl,.inr rfl,trivial⟩ ?_
 ·exact⟨Nat.zero_le _,rfl⟩
 rintro⟨k,cur,st,ls,cs⟩ ⟨hk,hst⟩
 dsimp only at *
 refine G_seq ?_
 refine G_seq ?_
 refine G_region' (L:=[0,1,2,3]) rfl ?_
 refine xmv ?_
 refine xmv ?_
 refine p_ rfl (l_len rfl sl_31) ?_
 refine p_ rfl (L_bin rfl rfl rfl rfl) ?_
 refine EOps_nil ?_
 refine G_cond rfl (fun hc42=>?_) (fun hc42=>?_)
 ·have hc42' : k < (rs).length := by simpa [ints_len, bools_len, pairs_len, quads_len, quints_len] using hc42
  obtain⟨r,hrk⟩:∃ x,(rs)[k]? = some x:=⟨_,List.getElem?_eq_getElem hc42'⟩
  have hok:=rq_ok hq4.1 hq4.2.1 hq4.2.2.2 k hk hst
  have okc:=hok.oc
  have oks:=hok.os
  have okl:=hok.ll
  have okk:=hok.lc
  have hcl:=crk_lens okc
  have hnx:=rq_next hrk hst
  have hrr:=hq4.2.2.2 r (List.mem_of_getElem? hrk)
  have hvv:=nest_len ls
  have hl30:=hq4.2.2.1
  have hsk:swK cur st r=true:=by simp [swK,okc,oks,hrr]
  have hsw:swC cur st r=(sw2 cur st r).1∧swS cur st r=(sw2 cur st r).2.1∧swL cur st r=swR (sw2 cur st r).1 r∧swN cur st r=totW (sw1 cur st r).2.2+totW (sw2 cur st r).2.2:=by simp [swC,swS,swL,swN,hsk]
  refine G_skip ?_
  refine G_seq ?_
  refine G_block ?_
  refine G_seq ?_
  refine g_tidy_A37_0 [0,1,2,4,6,7,8,9,10,11,12,13,14,15,16,17,34,42] ?_
  refine G_drawT mixed ?_
  refine tl_ 0 rfl (L_load rfl (xb0 ty_42)) ?_
  refine tl_ 1 rfl (L_load rfl (xb0 ty_29)) ?_
  refine tj_ 2 rfl (L_move rfl) ?_
  refine tj_ 3 rfl (L_move rfl) ?_
  refine tj_ 4 rfl (L_index rfl rfl (xii sl_31 ty_49)) ?_
  refine tl_ 5 rfl (L_load rfl (xb0 ty_49)) ?_
  refine t_main 4 [(⟨none,12,14,0⟩,_),(⟨none,13,15,0⟩,_)] [(6,false),(7,true),(8,true),(9,true),(10,true),(11,true)] [52,45,53,54,55,56] [(14,.any),(15,.any),(52,.any),(45,.any),(53,.any),(54,.any),(55,.any),(56,.any)] [6,7,8,9,10,11,12,13] ⟨.one rfl rfl rfl (by decide) (F_alloc rfl za_42),.one rfl rfl rfl (by decide) (F_alloc rfl za_29),trivial⟩ ?_
  refine m_call rfl rfl rfl rfl rfl ca_40 (c_spec_SelectWith cur st r (by omega)) ?_
  rintro r S ⟨rfl,rfl⟩
  rw [hsw.1,hsw.2.1,hsw.2.2.1,hsw.2.2.2]
  clear hsw
  generalize totW (sw1 cur st r).2.2+totW (sw2 cur st r).2.2=nn at *
  generalize swR (sw2 cur st r).1 r=aa at *
  generalize sw2 cur st r=P at *
  obtain⟨c2,st2,l2⟩:=P
  dsimp only at *
  refine m_pure rfl rfl rfl (L_move rfl) ?_
  refine m_pure rfl rfl rfl (L_extract rfl rfl) ?_
  refine m_pure rfl rfl rfl (L_extract rfl rfl) ?_
  refine m_pure rfl rfl rfl (L_extract rfl rfl) ?_
  refine m_pure rfl rfl rfl (L_extract rfl rfl) ?_
  refine m_done ?_
  refine fk_cons ?_
  rintro r S ⟨rfl,rfl⟩
  refine fk_cons ?_
  rintro r S ⟨rfl,rfl⟩
  refine fk_nil ?_
  refine t_turn 14 rfl rfl (EOp_store rfl rfl rfl (xb1 ty_42) ?_)
  refine t_turn 15 rfl rfl (EOp_store rfl rfl rfl (xb1 ty_29) ?_)
  refine tj_ 16 rfl (L_assign rfl) ?_
  refine tj_ 17 rfl (L_assign rfl) ?_
  refine T_done (by kernel_rfl) ?_
  refine G_seq ?_
  refine G_region' (L:=[0,1]) rfl ?_
  refine l_ rfl (L_load rfl (xb0 ty_42)) ?_
  refine EOps_go rfl rfl (EOp_store rfl rfl rfl (xb1 ty_42) ?_)
  refine EOps_nil ?_
  refine G_seq ?_
  refine G_region' (L:=[0,1]) rfl ?_
  refine l_ rfl (L_load rfl (xb0 ty_29)) ?_
  refine EOps_go rfl rfl (EOp_store rfl rfl rfl (xb1 ty_29) ?_)
  refine EOps_nil ?_
  refine G_seq ?_
  refine (X_pin 16 rfl).G fun v=>?_
  refine G_region' (L:=[0,1,2,3,4]) rfl ?_
  refine xmv ?_
  refine xmv ?_
  refine EOps_go rfl rfl (Heavy.op (H_bslice_ro rfl rfl (by decide) sl_43 ty_22 za_22 ⟨rfl,by decide⟩ (by decide) rfl rfl rfl rfl ?_))
  refine EOps_go rfl rfl (EOp_append (news:=(vrow [v])) rfl rfl (by decide) sl_43 ty_22 by_22 za_22 ⟨rfl,by decide⟩ rfl (by first|rfl|assumption) xb7 xb8 (by exact vrow_row _) (by simp [vrow_len];omega) ?_)
  refine xas ?_
  refine EOps_nil ?_
  refine (X_absorb 4 ls.length 0 15 12 rfl (nest_at ls v) rfl rfl rfl (ints_len _) (by decide) rfl).G fun _=>?_
  refine G_region' (L:=[0,1,2,3,4]) rfl ?_
  refine xmv ?_
  refine xmv ?_
  refine EOps_go rfl rfl (Heavy.op (H_bslice_ro rfl rfl (by decide) sl_22 ty_3 za_3 ⟨rfl,by decide⟩ (by decide) rfl rfl rfl rfl ?_))
  refine EOps_go rfl rfl (EOp_append (news:=(ints [nn])) rfl rfl (by decide) sl_22 ty_3 by_3 za_3 ⟨rfl,by decide⟩ rfl (by first|rfl|assumption) xb7 xb8 xb9 xb10 ?_)
  refine xas ?_
  refine EOps_nil ?_
  refine G_region' (L:=[0,1,2]) rfl ?_
  refine xmv ?_
  refine p_ rfl xb3 ?_
  refine xas ?_
  refine EOps_nil ?_
  refine⟨[0,1,2,3,4,5,9,10,11],rfl,(k+1,c2,st2,ls++[aa],cs++[nn]),?_,?_,by rw [← nest_push ls v aa,← ints_app];rfl,⟨.inr rfl,.inr ((by rw [show (ls++[aa]).length=ls.length+(vrow [v]).length by simp [vrow_len]]<;>rfl)),.inr ((by rw [show (cs++[nn]).length=cs.length+(ints [nn]).length by simp [ints_len]]<;>rfl)),trivial⟩,⟨.inr rfl,.inr rfl,.inr rfl,.inr rfl,.inr rfl,.inr rfl,.inr rfl,.inr rfl,.inr rfl,.inr rfl,trivial⟩⟩
  ·first|omega|(dsimp only;omega)|(simp;omega)
  exact⟨by omega,hnx⟩
 have hk' : rs.length ≤ k := by simpa [pairs_len] using hc42
 obtain rfl:k=rs.length:=by omega
 refine G_exit ?_
 refine G_seq ?_
 refine G_region' (L:=[0,1,2,3,4,5]) rfl ?_
 refine l_ rfl (L_load rfl (xb0 ty_42)) ?_
 refine xmv ?_
 refine xmv ?_
 refine EOps_go rfl rfl (EOp_store rfl rfl rfl (xb1 ty_42) ?_)
 refine xas ?_
 refine xas ?_
 refine EOps_nil ?_
 refine G_ret ?_
 rw [hL.1,hL.2.1,hL.2.2,hst]
 exact⟨_,[6,7,8,4,5],rfl,rfl,rfl,rfl⟩

end Go.Proofs.YtjbbjicochipeaaGreat.E
