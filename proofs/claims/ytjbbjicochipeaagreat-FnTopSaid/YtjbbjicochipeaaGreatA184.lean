/- Walks through functions, by program out of the session's annotations. -/
import Derived.Test.YtjbbjicochipeaaGreatA181
import Derived.Test.YtjbbjicochipeaaGreatA183
import Derived.Test.YtjbbjicochipeaaGreatA45
import Derived.Test.YtjbbjicochipeaaGreatF4
namespace Go.Proofs.YtjbbjicochipeaaGreat.E
open Go Go.RowKit Go.Proofs
set_option linter.unusedVariables false
set_option linter.unusedSimpArgs false

/-- Column, settings and ledger after the first k queries. -/
def ledN (xs : List Int) (s : Sett) (rs : List (Int × Int)) : Nat → Crk × Sett × List Qn
 | 0=>(newCrk xs,s,[])
 | k+1=>lw2 (k:Nat) (ledN xs s rs k).1 (ledN xs s rs k).2.1 (rs.getD k (0,0)) (ledN xs s rs k).2.2
structure LdOk (xs : List Int) (s : Sett) (rs : List (Int × Int)) (k : Nat) : Prop where
 oc:isCrk (ledN xs s rs k).1=true
 os:isSet (ledN xs s rs k).2.1=true
 ol:okL (ledN xs s rs k).2.2 (16002*k)
theorem ld_ok {xs : List Int} {s : Sett} {rs : List (Int × Int)} (hx : areVals xs = true) (hs : isSet s = true) (hr : ∀ r ∈ rs, isRng r = true) : ∀ k, k ≤ rs.length → LdOk xs s rs k
 | 0,_=>⟨newCrk_ok hx,hs,okL_nil _⟩
 | k + 1, hk => by
  have h:=ld_ok hx hs hr k (by omega)
  obtain⟨r,hrk⟩:=at_lt (l:=rs) (k:=k) (by omega)
  have e:rs.getD k (0,0)=r:=by rw [List.getD_eq_getElem?_getD,hrk];rfl
  have hw:=lw_ok (q:=(k:Nat)) h.oc h.os (hr r (List.mem_of_getElem? hrk)) h.ol
  have e1:ledN xs s rs (k+1)=lw2 (k:Nat) (ledN xs s rs k).1 (ledN xs s rs k).2.1 r (ledN xs s rs k).2.2:=by rw [ledN,e]
  exact⟨by rw [e1];exact hw.c2,by rw [e1];exact hw.s2,by rw [e1];exact okL_mono hw.l2 (by omega)⟩
theorem ld_at {xs : List Int} {s : Sett} {rs : List (Int × Int)} (hx : areVals xs = true) (hs : isSet s = true) (hr : ∀ r ∈ rs, isRng r = true) {k : Nat} (hk : k ≤ rs.length) {c : Crk} {t : Sett} {l : List Qn} (h : ledN xs s rs k = (c, t, l)) : isCrk c = true ∧ isSet t = true ∧ okL l (16002 * k) := by
 have h1:=ld_ok hx hs hr k hk
 have h2:=h1.oc
 have h3:=h1.os
 have h4:=h1.ol
 rw [h] at h2 h3 h4
 exact⟨h2,h3,h4⟩
theorem ld_next {xs : List Int} {s : Sett} {rs : List (Int × Int)} {k : Nat} {c : Crk} {t : Sett} {l : List Qn} {r : Int × Int} (hrk : rs[k]? = some r) (h : ledN xs s rs k = (c, t, l)) : ledN xs s rs (k + 1) = lw2 (k : Nat) c t r l := by
 have hgd:rs.getD k (0,0)=r:=by rw [List.getD_eq_getElem?_getD,hrk];rfl
 rw [ledN,h,hgd]
def ledL (xs:List Int) (s:Sett) (rs:List (Int × Int)):List Qn:=if areQ xs s rs=true then (ledN xs s rs rs.length).2.2 else []
set_option maxRecDepth 20000 in
set_option maxHeartbeats 8000000 in
theorem c_impl_queriesB (xs : List Int) (s : Sett) (rs : List (Int × Int)) (hx : areVals xs = true) (hs : isSet s = true) (hl : rs.length ≤ 30) (hr : ∀ r ∈ rs, isRng r = true) : EFn Tryz.prog 38 [.c (.ro (ints xs)), .agg (setC s), .c (.ro (pairs rs)), .c (.fn 44 [.bp 0 0])] [.box [.sl 1 0 0 0], .row 76 5 (quints [])] (fun y S => y = .tup [(true, crkO 2 (ledN xs s rs rs.length).1), (false, [.any]), (false, [.any])] ∧ S = [.box [.sl 1 0 (ledN xs s rs rs.length).2.2.length (ledN xs s rs rs.length).2.2.length], .row 76 5 (quints (ledN xs s rs rs.length).2.2)] ++ crkR 3 87 (ledN xs s rs rs.length).1) := by
 refine E_fn Tryz.func38 rfl (Nat.le_of_ble_eq_true rfl) ?_
 refine E_G (n:=2) rfl ?_
 have hxl:=areVals_parts hx
 have hc0:=crk_lens (newCrk_ok hx)
 refine G_seq ?_
 refine G_region' (L:=[0,1,2,3,4]) rfl ?_
 refine x_box rfl rfl rfl rfl rfl ?_
 refine x_box rfl rfl rfl rfl rfl ?_
 refine x_alloc rfl rfl rfl rfl za_42 ?_
 refine xas ?_
 refine xas ?_
 refine EOps_nil ?_
 refine G_seq ?_
 refine g_tidy_A37_0 [0,1,2,3,5,7,8,9,10] ?_
 refine G_region' (L:=[0,1,2,3,4,5,6,7]) rfl ?_
 refine xmv ?_
 refine x_call rfl rfl rfl rfl rfl ca_46 (c_impl_NewCracker xs (by omega)) ?_
 rintro r S ⟨rfl,rfl⟩
 refine EOps_go rfl rfl (Heavy.op (H_bslice rfl rfl (by decide) sl_43 ty_22 za_22 ⟨rfl,by decide⟩ (by decide) rfl rfl rfl rfl ?_))
 refine EOps_go rfl rfl (Heavy.op (H_bslice rfl rfl (by decide) sl_22 ty_3 za_3 ⟨rfl,by decide⟩ (by decide) rfl rfl rfl rfl ?_))
 refine x_alloc rfl rfl rfl rfl za_42 ?_
 refine EOps_go rfl rfl (EOp_store rfl rfl rfl (xb1 ty_42) ?_)
 refine xas ?_
 refine xas ?_
 refine EOps_nil ?_
 refine G_seq ?_
 refine G_seq ?_
 refine G_region' (L:=[0,1,2]) rfl ?_
 refine xmv ?_
 refine p_ rfl (l_len rfl sl_31) ?_
 refine xmv ?_
 refine EOps_nil ?_
 refine G_block ?_
 refine G_drop [0,1,2,3,5,7,8,9,10,11,12,13,22,23,24] [2,3,4,10,8,9,5,6,7] rfl rfl rfl ?_
 refine g_forD_A37_1 (α:=Nat × Crk × Sett × List Qn × List Value × List Int) [0,1,2,3,5,7,8,9,10,11,22,23] (fun (k,cur,st,l1,vs,cs)=>[(24,.c (.sc (.int .i64 (k)))),(12,.c (.sl 6 0 vs.length vs.length)),(13,.c (.sl 7 0 cs.length cs.length))]) (fun (k,cur,st,l1,vs,cs)=>[.box [.sl 1 0 l1.length l1.length],.row 76 5 (quints l1),.box (setC st),.box [.fn 44 [.bp 0 0]],.box [.sc (.slice none 0 0),.sc (.slice none 0 0),.sc (.slice none 0 0)],.box (crkO 8 cur),.row 22 1 (vrow vs),.row 3 1 (ints cs),.row 3 1 (ints cur.vals),.row 3 1 (ints cur.rows),.row 87 2 (pairs cur.piv)]) (fun (k,cur,st,l1,vs,cs)=>k≤rs.length∧ledN xs s rs k=(cur,st,l1)∧vs.length=k∧cs.length=k) (fun (k,cur,st,l1,vs,cs)=>rs.length - k) ((0,newCrk xs,s,[],[],[])) ?_ (rfl) ⟨.inr rfl,.inr rfl,.inr rfl,trivial⟩ ?_
 ·exact⟨Nat.zero_le _,rfl,rfl,rfl⟩
 rintro⟨k,cur,st,l1,vs,cs⟩ ⟨hk,hst,hvl,hcl⟩
 dsimp only at *
 refine G_seq ?_
 refine G_region' (L:=[0]) rfl ?_
 refine p_ rfl (L_bin rfl rfl rfl rfl) ?_
 refine EOps_nil ?_
 refine G_seq ?_
 refine G_cond rfl (fun hc25=>?_) (fun hc25=>?_)
 ·have hc25' : k < (rs).length := by simpa [ints_len, bools_len, pairs_len, quads_len, quints_len] using hc25
  obtain⟨r,hrk⟩:∃ x,(rs)[k]? = some x:=⟨_,List.getElem?_eq_getElem hc25'⟩
  have okc:=(ld_at hx hs hr hk hst).1
  have oks:=(ld_at hx hs hr hk hst).2.1
  have okl:=(ld_at hx hs hr hk hst).2.2
  have hnx:=ld_next hrk hst
  have hrr:=hr r (List.mem_of_getElem? hrk)
  have hvv:=vrow_len vs
  refine G_skip ?_
  refine G_seq ?_
  refine G_block ?_
  refine G_seq ?_
  refine G_region' (L:=[0,1,2,3,4,5,6]) rfl ?_
  refine xmv ?_
  refine p_ rfl (L_index rfl rfl (xii sl_31 ty_49)) ?_
  refine l_ rfl (L_load rfl (xb0 ty_49)) ?_
  refine x_alloc rfl rfl rfl rfl za_3 ?_
  refine x_alloc rfl rfl rfl rfl za_49 ?_
  refine EOps_go rfl rfl (EOp_store rfl rfl rfl (xb1 ty_3) ?_)
  refine EOps_go rfl rfl (EOp_store rfl rfl rfl (xb1 ty_49) ?_)
  refine EOps_nil ?_
  refine G_seq ?_
  refine G_region' (L:=[0]) rfl ?_
  refine xas ?_
  refine EOps_nil ?_
  refine G_seq ?_
  refine G_region' (L:=[0]) rfl ?_
  refine xas ?_
  refine EOps_nil ?_
  refine G_seq ?_
  refine g_tidy_A37_0 [0,1,2,3,5,7,8,9,10,11,12,13,14,15,16,17,22,23,24,25] ?_
  refine G_region' (L:=[0,1,2,3,4,5,6,7,8,9,10,11,12,13]) rfl ?_
  refine l_ rfl (L_load rfl (xb0 ty_42)) ?_
  refine l_ rfl (L_load rfl (xb0 ty_29)) ?_
  refine l_ rfl (L_load rfl (xb0 ty_49)) ?_
  refine p_ rfl (L_func rfl rfl) ?_
  refine x_frame [8,9,10,3,11,0,1] rfl rfl rfl rfl rfl ca_65 rfl (c_impl_selectingB (k:Nat) cur st r l1 (16002*k) okc oks hrr okl (by omega)) ?_
  rintro r S ⟨r0,S0,⟨rfl,rfl⟩,rfl,rfl⟩
  rw [← hnx]
  generalize hN:ledN xs s rs (k+1)=P at *
  obtain⟨c2,st2,l2⟩:=P
  dsimp only at *
  generalize totW (lw1 (k:Nat) cur st r l1).2.2 - totW l1+(totW l2 - totW (lw1 (k:Nat) cur st r l1).2.2)=nn
  refine xmv ?_
  refine p_ rfl (L_extract rfl rfl) ?_
  refine p_ rfl (L_extract rfl rfl) ?_
  refine p_ rfl (L_extract rfl rfl) ?_
  refine p_ rfl (L_extract rfl rfl) ?_
  refine EOps_go rfl rfl (EOp_store rfl rfl rfl (xb1 ty_42) ?_)
  refine EOps_go rfl rfl (EOp_store rfl rfl rfl (xb1 ty_29) ?_)
  refine xas ?_
  refine xas ?_
  refine EOps_nil ?_
  refine (X_pin 16 rfl).G fun v=>?_
  refine G_region' (L:=[0,1,2,3,4,5,6,7,8,9]) rfl ?_
  refine xmv ?_
  refine xmv ?_
  refine EOps_go rfl rfl (Heavy.op (H_bslice_ro rfl rfl (by decide) sl_43 ty_22 za_22 ⟨rfl,by decide⟩ (by decide) rfl rfl rfl rfl ?_))
  refine EOps_go rfl rfl (EOp_append (news:=(vrow [v])) rfl rfl (by decide) sl_43 ty_22 by_22 za_22 ⟨rfl,by decide⟩ rfl (by first|rfl|assumption) xb7 xb8 (by exact vrow_row _) (by simp [vrow_len];omega) ?_)
  refine xmv ?_
  refine xmv ?_
  refine EOps_go rfl rfl (Heavy.op (H_bslice_ro rfl rfl (by decide) sl_22 ty_3 za_3 ⟨rfl,by decide⟩ (by decide) rfl rfl rfl rfl ?_))
  refine EOps_go rfl rfl (EOp_append (news:=(ints [nn])) rfl rfl (by decide) sl_22 ty_3 by_3 za_3 ⟨rfl,by decide⟩ rfl (by first|rfl|assumption) xb7 xb8 xb9 xb10 ?_)
  refine xas ?_
  refine xas ?_
  refine EOps_nil ?_
  refine G_region' (L:=[0,1]) rfl ?_
  refine p_ rfl xb3 ?_
  refine xmv ?_
  refine EOps_nil ?_
  refine⟨[2,3,4,5,6,7,13,14,15],rfl,(k+1,c2,st2,l2,vs++[v],cs++[nn]),?_,?_,by rw [← vrow_app,← ints_app];rfl,⟨.inr rfl,.inr ((by rw [← vrow_lenApp]<;>rfl)),.inr ((by rw [show (cs++[nn]).length=cs.length+(ints [nn]).length by simp [ints_len]]<;>rfl)),trivial⟩,⟨.inr rfl,.inr rfl,.inr rfl,.inr rfl,.inr rfl,.inr rfl,.inr rfl,.inr rfl,.inr rfl,.inr rfl,.inr rfl,.inr rfl,trivial⟩⟩
  ·first|omega|(dsimp only;omega)|(simp;omega)
  exact⟨by omega,hN,by simp [hvl],by simp [hcl]⟩
 have hk' : rs.length ≤ k := by simpa [pairs_len] using hc25
 obtain rfl:k=rs.length:=by omega
 refine G_exit ?_
 refine G_seq ?_
 refine G_region' (L:=[0,1,2,3,4,5]) rfl ?_
 refine l_ rfl (L_load rfl (xb0 ty_42)) ?_
 refine xmv ?_
 refine xmv ?_
 refine EOps_go rfl rfl (EOp_store rfl rfl rfl (xb1 ty_42) ?_)
 refine xas ?_
 refine xas ?_
 refine EOps_nil ?_
 refine (X_any 9 rfl).G fun _=>?_
 refine (X_any 10 rfl).G fun _=>?_
 refine G_ret ?_
 rw [hst]
 exact⟨_,[8,9,10],rfl,rfl,rfl,rfl⟩

end Go.Proofs.YtjbbjicochipeaaGreat.E
