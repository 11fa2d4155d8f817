/- Walks through functions, by program out of the session's annotations. -/
import Derived.Test.YtjbbjicochipeaaGreatA47
import Derived.Test.YtjbbjicochipeaaGreatA52
import Derived.Test.YtjbbjicochipeaaGreatA100
import Derived.Test.YtjbbjicochipeaaGreatF4
namespace Go.Proofs.YtjbbjicochipeaaGreat.E
open Go Go.RowKit Go.Proofs
set_option linter.unusedVariables false
set_option linter.unusedSimpArgs false

/-- Values and rows, each as one number. -/
def prN (c : Crk) : Nat → List Int
 | 0=>[]
 | k+1=>prN c k++[c.vals.getD k 0*1000+c.rows.getD k 0]
theorem prN_len (c : Crk) : ∀ k, (prN c k).length = k
 | 0=>rfl
 | k+1=>by rw [prN,List.length_append,prN_len c k];rfl
theorem prN_at {c:Crk} {k:Nat} {x y:Int} (hx:c.vals[k]? = some x) (hy:c.rows[k]? = some y):prN c (k+1)=prN c k++[x*1000+y]:=by rw [prN,getD_of hx,getD_of hy]
def prF (z:Int × Int):Int:=z.1*1000+z.2
theorem prN_zip {c : Crk} (hl : c.rows.length = c.vals.length) : ∀ k, k ≤ c.vals.length → prN c k = ((zpC c).take k).map prF
 | 0,_=>rfl
 | k + 1, hk => by
  obtain⟨x,hx⟩:=at_lt (l:=c.vals) (k:=k) (by omega)
  obtain⟨y,hy⟩:=at_lt (l:=c.rows) (k:=k) (by omega)
  have hz:(zpC c)[k]? = some (x,y):=by rw [zpC,List.getElem?_zip_eq_some];exact⟨hx,hy⟩
  rw [prN_at hx hy,prN_zip hl k (by omega),List.take_add_one,hz,List.map_append]
  rfl
def prL (c:Crk):List Int:=sortI (prN c c.vals.length)
theorem sortI_of {xs ys:List Int} (h:xs.Perm ys):sortI xs=sortI ys:=sortI_eq ((sortI_perm xs).trans h) (sortI_pw xs)
theorem prL_of {c d : Crk} (hc : c.rows.length = c.vals.length) (hd : d.rows.length = d.vals.length) (h : (zpC c).Perm (zpC d)) : prL c = prL d := by
 have h1:(zpC c).length=c.vals.length:=by simp [zpC,hc]
 have h2:(zpC d).length=d.vals.length:=by simp [zpC,hd]
 rw [prL,prL,prN_zip hc _ (Nat.le_refl _),prN_zip hd _ (Nat.le_refl _),List.take_of_length_le (by omega),List.take_of_length_le (by omega)]
 exact sortI_of (h.map prF)
theorem set2_perm {α : Type} {l : List α} {i j : Nat} {x y : α} (hx : l[i]? = some x) (hy : l[j]? = some y) : ((l.set i y).set j x).Perm l := by
 have hi:=lt_of_at hx
 have hj:=lt_of_at hy
 by_cases e:i=j
 ·subst e
  rw [hx] at hy
  obtain rfl:=Option.some.inj hy
  rw [List.set_set]
  have : l.set i x = l := List.ext_getElem? fun k => by
   by_cases e:i=k
   ·subst e;rw [List.getElem?_set_self hi,hx]
   rw [List.getElem?_set_ne e]
  rw [this]
 have h1 := perm_set (l := l.set i y) (i := j) x (by simpa using hj)
 have h2:(l.set i y)[j]? = some y:=by rw [List.getElem?_set_ne e];exact hy
 have h3:=(perm_at h2).symm.trans (perm_set (l:=l) (i:=i) y hi)
 have h4:=List.Perm.cons_inv h3
 exact h1.trans ((List.Perm.cons x h4).trans (perm_at hx).symm)
theorem zip_set : ∀ (a b : List Int) (i : Nat) (x y : Int), List.zip (a.set i x) (b.set i y) = (List.zip a b).set i (x, y)
 | [],b,i,x,y=>by simp
 | p::a,[],i,x,y=>by simp
 | p::a,q::b,0,x,y=>rfl
 | p :: a, q :: b, i + 1, x, y => by
  show (p,q)::List.zip (a.set i x) (b.set i y)=(p,q)::(List.zip a b).set i (x,y)
  rw [zip_set a b i x y]
theorem swps_zip : ∀ (sw : List (Int × Int)) (a b : List Int), b.length = a.length → swIn 0 a.length sw → (List.zip (swps a sw) (swps b sw)).Perm (List.zip a b)
 | [],a,b,_,_=>List.Perm.refl _
 | s :: sw, a, b, hl, h => by
  have hs:=h s (List.mem_cons_self ..)
  have h1:=swps_zip sw (swp a s) (swp b s) (by rw [swp_len,swp_len,hl]) (fun t ht=>by rw [swp_len];exact h t (List.mem_cons_of_mem _ ht))
  refine h1.trans ?_
  obtain⟨x,hx⟩:=at_lt (l:=a) (k:=s.1.toNat) (by omega)
  obtain⟨y,hy⟩:=at_lt (l:=a) (k:=s.2.toNat) (by omega)
  obtain⟨x',hx'⟩:=at_lt (l:=b) (k:=s.1.toNat) (by omega)
  obtain⟨y',hy'⟩:=at_lt (l:=b) (k:=s.2.toNat) (by omega)
  rw [swp,swp,getD_of hx,getD_of hy,getD_of hx',getD_of hy',zip_set,zip_set]
  exact set2_perm (List.getElem?_zip_eq_some.2 ⟨hx,hx'⟩) (List.getElem?_zip_eq_some.2 ⟨hy,hy'⟩)
theorem crack_perm {c : Crk} {v : Int} (hc : isCrk c = true) (hv : bnd v = true) : (zpC (crackC c v).1).Perm (zpC c) := by
 have hl:=crk_lens hc
 cases hp:isPv c.piv v
 ·obtain ⟨at_, k1, k2, k3, k4, _⟩ := crack_ok hc hv hp
  have hb:=pc_bounds hc v
  have hcr:(crackC c v).1=withPv (swaped c (partC c v).1) (v,(partC c v).2):=by rw [crackC,if_neg (by simp [hp])]
  rw [hcr]
  exact swps_zip _ _ _ hl.2.1 fun s hs=>by have:=k4 s hs;omega
 rw [crackC,if_pos hp]

set_option maxRecDepth 20000 in
set_option maxHeartbeats 2000000 in
theorem c_laws_pairsOf (c : Crk) (hc : isCrk c = true) : EFn Tryz.prog 23 [.agg (crkC c)] [] (fun r S => r = .c (.sl 0 0 (prL c).length (prL c).length) ∧ S = [.row 3 1 (ints (prL c))]) := by
 refine E_fn Tryz.func23 rfl (Nat.le_of_ble_eq_true rfl) ?_
 have hl:=crk_lens hc
 have hok:=(crk_iff c).1 hc
 refine E_seq ?_
 refine E_region' (L:=[0,1]) rfl ?_
 refine x_box rfl rfl rfl rfl rfl ?_
 refine xas ?_
 refine EOps_nil ?_
 refine E_seq ?_
 refine E_region' (L:=[0,1]) rfl ?_
 refine EOps_go rfl rfl (Heavy.op (H_bslice rfl rfl (by decide) sl_22 ty_3 za_3 ⟨rfl,by decide⟩ (by decide) rfl rfl rfl rfl ?_))
 refine xas ?_
 refine EOps_nil ?_
 refine E_seq ?_
 refine E_seq ?_
 refine E_region' (L:=[0]) rfl ?_
 refine xas ?_
 refine EOps_nil ?_
 refine E_block ?_
 refine e_for (α:=Nat) [0,1,2] (fun k=>[(4,.c (.sc (.int .i64 ((k:Int))))),(3,.c (.sl 1 0 (prN c k).length (prN c k).length))]) (fun k=>[.box (crkC c),.row 3 1 (ints (prN c k))]) (fun k=>k≤c.vals.length) (fun k=>c.vals.length - k) (0) ?_ (rfl) ⟨.inr rfl,.inr rfl,trivial⟩ ?_
 ·simp
 rintro k hk
 have hpl:=prN_len c k
 refine E_seq ?_
 refine E_seq ?_
 refine E_region' (L:=[0,1,2,3,4,5,6,7,8,9,10,11]) rfl ?_
 refine xmv ?_
 refine p_ rfl (l_field rfl fo_42_0) ?_
 refine l_ rfl (L_load rfl (xb0 ty_22)) ?_
 refine p_ rfl (l_len rfl sl_22) ?_
 refine p_ rfl (L_bin rfl rfl rfl rfl) ?_
 refine xmv ?_
 refine EOps_split 11 (b:=_) rfl (fun hg11=>?_) (fun hg11=>?_)
 ·have hk1 : k < c.vals.length := by simp [ints_len] at hg11; omega
  refine xmv ?_
  refine p_ rfl (l_field rfl fo_42_1) ?_
  refine l_ rfl (L_load rfl (xb0 ty_22)) ?_
  refine p_ rfl (l_len rfl sl_22) ?_
  refine p_ rfl (L_bin rfl rfl rfl rfl) ?_
  refine p_ rfl (L_pick rfl rfl) ?_
  refine EOps_nil ?_
  refine E_cond rfl (fun hc17=>?_) (fun hc17=>?_)
  ·obtain ⟨x, hx⟩ := at_lt (l := c.vals) hk1
   obtain⟨y,hy⟩:=at_lt (l:=c.rows) (k:=k) (by omega)
   have hst:=prN_at hx hy
   have hxr:=hok.vr k hk1
   have hyr:=hok.rr k hk1
   rw [getD_of hx] at hxr
   rw [getD_of hy] at hyr
   refine E_skip ?_
   refine E_seq ?_
   refine E_block ?_
   refine E_drawT mixed ?_
   refine tj_ 0 rfl (L_move rfl) ?_
   refine tj_ 1 rfl (l_field rfl fo_42_0) ?_
   refine tl_ 2 rfl (L_load rfl (xb0 ty_22)) ?_
   refine tj_ 3 rfl (L_move rfl) ?_
   refine tj_ 4 rfl (L_index rfl rfl (xii sl_22 ty_3)) ?_
   refine tl_ 5 rfl (L_load rfl (xb0 ty_3)) ?_
   refine tj_ 6 rfl xb12 ?_
   refine tj_ 7 rfl (l_field rfl fo_42_1) ?_
   refine tl_ 8 rfl (L_load rfl (xb0 ty_22)) ?_
   refine tj_ 9 rfl (L_move rfl) ?_
   refine tj_ 10 rfl (L_index rfl rfl (xii sl_22 ty_3)) ?_
   refine tl_ 11 rfl (L_load rfl (xb0 ty_3)) ?_
   refine tj_ 12 rfl xb3 ?_
   refine t_turn 13 rfl rfl (Heavy.op (H_bslice_ro rfl rfl (by decide) sl_22 ty_3 za_3 ⟨rfl,by decide⟩ (by decide) rfl rfl rfl rfl ?_))
   refine t_turn 14 rfl rfl (EOp_append (news:=ints [x*1000+y]) rfl rfl (by decide) sl_22 ty_3 by_3 za_3 ⟨rfl,by decide⟩ rfl (by first|rfl|assumption) xb7 xb8 xb9 xb10 ?_)
   refine tj_ 15 rfl (L_assign rfl) ?_
   refine T_done (by kernel_rfl) ?_
   refine E_region' (L:=[0,1,2]) rfl ?_
   refine xmv ?_
   refine p_ rfl xb3 ?_
   refine xas ?_
   refine EOps_nil ?_
   refine⟨k+1,?_,?_,(by rw [hst,← ints_app];rfl),⟨.inr rfl,.inr ((by rw [hst,← ints_lenApp];rfl)),trivial⟩,⟨.inr rfl,.inr rfl,.inr rfl,trivial⟩⟩
   ·first|omega|(dsimp only;omega)|(simp;omega)
   first|trivial|omega|(dsimp only;omega)|(simp;omega)
  have hke : k = c.vals.length := by
   first
    | omega
    | (exfalso;simp [ints_len] at hc17;omega)
  subst hke
  refine E_exit ?_
  refine E_seq ?_
  refine e_tidy [0,1,2,3,4,17] ?_
  refine E_region' (L:=[0,1,2]) rfl ?_
  refine xmv ?_
  refine x_call rfl rfl rfl rfl rfl ca_53 (c_spec_SortInts (prN c c.vals.length) (by omega)) ?_
  rintro r S ⟨rfl,rfl⟩
  refine xas ?_
  refine EOps_nil ?_
  refine E_ret ?_
  exact⟨_,[2],rfl,rfl,rfl,rfl⟩
 have hk2 : c.vals.length ≤ k := by simp [ints_len] at hg11; omega
 refine s_ rfl ?_
 refine s_ rfl ?_
 refine s_ rfl ?_
 refine s_ rfl ?_
 refine s_ rfl ?_
 refine p_ rfl (L_pick rfl rfl) ?_
 refine EOps_nil ?_
 refine E_cond rfl (fun hc17=>?_) (fun hc17=>?_)
 ·exact Bool.noConfusion (hc17:false=true)
 have hke : k = c.vals.length := by
  first
   | omega
   | (exfalso;simp [ints_len] at hc17;omega)
 subst hke
 refine E_exit ?_
 refine E_seq ?_
 refine e_tidy [0,1,2,3,4,17] ?_
 refine E_region' (L:=[0,1,2]) rfl ?_
 refine xmv ?_
 refine x_call rfl rfl rfl rfl rfl ca_53 (c_spec_SortInts (prN c c.vals.length) (by omega)) ?_
 rintro r S ⟨rfl,rfl⟩
 refine xas ?_
 refine EOps_nil ?_
 refine E_ret ?_
 exact⟨_,[2],rfl,rfl,rfl,rfl⟩

set_option maxRecDepth 20000 in
set_option maxHeartbeats 2000000 in
theorem c_laws_sameInts (xs ys : List Int) : EFn Tryz.prog 18 [.c (.ro (ints xs)), .c (.ro (ints ys))] [] (fun r S => r = .c (.sc (.bool (decide (xs = ys)))) ∧ S = []) := by
 refine E_fn Tryz.func18 rfl (Nat.le_of_ble_eq_true rfl) ?_
 refine E_bound (t:=0) (rows:=ints xs) rfl fun hb=>?_
 rw [ints_len] at hb
 refine E_seq ?_
 refine E_region' (L:=[0]) rfl ?_
 refine xas ?_
 refine EOps_nil ?_
 refine E_seq ?_
 refine E_seq ?_
 refine E_region' (L:=[0,1,2,3,4]) rfl ?_
 refine xmv ?_
 refine p_ rfl (l_len rfl sl_22) ?_
 refine xmv ?_
 refine p_ rfl (l_len rfl sl_22) ?_
 refine p_ rfl (L_bin rfl rfl rfl rfl) ?_
 refine EOps_nil ?_
 refine E_cond rfl (fun hc10=>?_) (fun hc10=>?_)
 ·have hne : xs ≠ ys := fun e => by subst e; simp at hc10
  refine E_seq ?_
  refine E_region' (L:=[0]) rfl ?_
  refine xas ?_
  refine EOps_nil ?_
  refine E_ret ?_
  refine⟨_,[],rfl,rfl,?_,rfl⟩
  simp [AV.ren,ren_sc,ren_ro,AC.ren,AC.ren.rens,ix,rv1,E.get,E.ev,E.cv,E.fill',E.fill,E.slotsOf,hne]
 have hlen : xs.length = ys.length := by simp [ints_len] at hc10; omega
 refine E_skip ?_
 refine E_seq ?_
 refine E_seq ?_
 refine E_region' (L:=[0]) rfl ?_
 refine xas ?_
 refine EOps_nil ?_
 refine E_block ?_
 refine e_for (α:=Nat) [0,1,10] (fun k=>[(5,.c (.sc (.int .i64 (k))))]) (fun _=>_) (fun k=>k≤xs.length∧xs.take k=ys.take k) (fun k=>xs.length - k) (0) ?_ (rfl) ⟨.inr rfl,trivial⟩ ?_
 ·simp
 rintro k ⟨hk,htk⟩
 refine E_seq ?_
 refine E_seq ?_
 refine E_region' (L:=[0,1,2,3]) rfl ?_
 refine xmv ?_
 refine xmv ?_
 refine p_ rfl (l_len rfl sl_22) ?_
 refine p_ rfl (L_bin rfl rfl rfl rfl) ?_
 refine EOps_nil ?_
 refine E_cond rfl (fun hc14=>?_) (fun hc14=>?_)
 ·have hc14' : k < (xs).length := by simpa [ints_len, bools_len, pairs_len, quads_len, quints_len] using hc14
  obtain⟨x,hx⟩:∃ x,(xs)[k]? = some x:=⟨_,List.getElem?_eq_getElem hc14'⟩
  obtain⟨y,hy⟩:∃ y,ys[k]? = some y:=⟨_,List.getElem?_eq_getElem (hlen ▸ hc14')⟩
  refine E_skip ?_
  refine E_seq ?_
  refine E_block ?_
  refine E_seq ?_
  refine E_drawT mixed ?_
  refine tj_ 0 rfl (L_move rfl) ?_
  refine tj_ 1 rfl (L_move rfl) ?_
  refine tj_ 2 rfl (L_index rfl rfl (xii sl_22 ty_3)) ?_
  refine tl_ 3 rfl (L_load rfl (xb0 ty_3)) ?_
  refine tj_ 4 rfl (L_move rfl) ?_
  refine tj_ 5 rfl (L_move rfl) ?_
  refine tj_ 6 rfl (L_index rfl rfl (xii sl_22 ty_3)) ?_
  refine tl_ 7 rfl (L_load rfl (xb0 ty_3)) ?_
  refine tj_ 8 rfl (L_bin rfl rfl rfl rfl) ?_
  refine T_done (by kernel_rfl) ?_
  refine E_cond rfl (fun hc25=>?_) (fun hc25=>?_)
  ·have hne : xs ≠ ys := fun e => by subst e; rw [hx] at hy; cases hy; simp at hc25
   refine E_seq ?_
   refine E_region' (L:=[0]) rfl ?_
   refine xas ?_
   refine EOps_nil ?_
   refine E_ret ?_
   refine⟨_,[],rfl,rfl,?_,rfl⟩
   simp [AV.ren,ren_sc,ren_ro,AC.ren,AC.ren.rens,ix,rv1,E.get,E.ev,E.cv,E.fill',E.fill,E.slotsOf,hne]
  have hxy : x = y := by simpa using hc25
  refine E_skip ?_
  refine E_region' (L:=[0,1,2]) rfl ?_
  refine xmv ?_
  refine p_ rfl xb3 ?_
  refine xas ?_
  refine EOps_nil ?_
  refine⟨k+1,?_,?_,rfl,⟨.inr rfl,trivial⟩,⟨.inr rfl,.inr rfl,.inr rfl,trivial⟩⟩
  ·first|omega|(dsimp only;omega)|(simp;omega)
  exact⟨by omega,by rw [List.take_add_one,List.take_add_one,htk,hx,hy,hxy]⟩
 have hk' : xs.length ≤ k := by simpa [ints_len] using hc14
 have heq:xs=ys:=by rw [List.take_of_length_le hk',List.take_of_length_le (by omega)] at htk;exact htk
 refine E_exit ?_
 refine E_seq ?_
 refine E_region' (L:=[0]) rfl ?_
 refine xas ?_
 refine EOps_nil ?_
 refine E_ret ?_
 refine⟨_,[],rfl,rfl,?_,rfl⟩
 simp [AV.ren,ren_sc,ren_ro,AC.ren,AC.ren.rens,ix,rv1,E.get,E.ev,E.cv,E.fill',E.fill,E.slotsOf,heq]

set_option maxRecDepth 20000 in
set_option maxHeartbeats 2000000 in
theorem c_laws_big (l : List Int) : EFn Tryz.prog 13 [.c (.ro (bytes l))] [] (fun r S => r = .c (.sc (.bool (decide ((l.length : Int) > 1048576)))) ∧ S = []) := by
 refine E_fn Tryz.func13 rfl (Nat.le_of_ble_eq_true rfl) ?_
 refine E_seq ?_
 refine E_region' (L:=[0]) rfl ?_
 refine xas ?_
 refine EOps_nil ?_
 refine E_seq ?_
 refine E_region' (L:=[0,1,2,3]) rfl ?_
 refine xmv ?_
 refine p_ rfl (l_len rfl sl_36) ?_
 refine p_ rfl (L_bin rfl rfl rfl rfl) ?_
 refine xas ?_
 refine EOps_nil ?_
 refine E_ret ?_
 refine⟨_,[],rfl,rfl,?_,rfl⟩
 rw [← bytes_len l];rfl

end Go.Proofs.YtjbbjicochipeaaGreat.E
