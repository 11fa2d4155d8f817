/- Walks through functions, by program out of the session's annotations. -/
import Derived.Test.YtjbbjicochipeaaGreatA187
namespace Go.Proofs.YtjbbjicochipeaaGreat.E
open Go Go.RowKit Go.Proofs
set_option linter.unusedVariables false
set_option linter.unusedSimpArgs false

/-- How often n can be halved until it is no greater than t. -/
def levT (t : Nat) : Nat → Nat → Nat
 | 0,_=>0
 | f+1,n=>if n≤t then 0 else levT t f (n / 2)+1
theorem levT_le (t : Nat) : ∀ f n, levT t f n ≤ f
 | 0,n=>by simp [levT]
 | f + 1, n => by
  have:=levT_le t f (n / 2)
  rw [levT]
  split<;>omega
theorem levT_stop {t f n : Nat} (h : n ≤ t) : levT t f n = 0 := by
 cases f with
 | zero=>rfl
 | succ g=>rw [levT,if_pos h]
theorem levT_step {t f n : Nat} (h : t < n) (hf : n ≤ f) : ∃ g, f = g + 1 ∧ levT t f n = levT t g (n / 2) + 1 := by
 cases f with
 | zero=>omega
 | succ g=>exact⟨g,rfl,by rw [levT,if_neg (by omega)]⟩
def sumI : List Int → Int
 | []=>0
 | x::l=>x+sumI l
theorem sumI_app : ∀ (l m : List Int), sumI (l ++ m) = sumI l + sumI m
 | [],m=>by simp [sumI]
 | x::l,m=>by rw [List.cons_append,sumI,sumI_app l m,sumI];omega
theorem sumI_step {l : List Int} {k : Nat} {x : Int} (h : l[k]? = some x) : sumI (l.take (k + 1)) = sumI (l.take k) + x := by
 rw [List.take_add_one,h,sumI_app];simp [sumI]
theorem sumI_bd : ∀ {l : List Int}, (∀ x ∈ l, 0 ≤ x ∧ x ≤ 2000000) → 0 ≤ sumI l ∧ sumI l ≤ 2000000 * l.length
 | [],_=>by simp [sumI]
 | x :: l, h => by
  have h1:=h x (List.mem_cons_self ..)
  have h2:=sumI_bd (l:=l) fun y hy=>h y (List.mem_cons_of_mem _ hy)
  rw [sumI,List.length_cons]
  omega
theorem sumI_in {l : List Int} (h : ∀ x ∈ l, 0 ≤ x ∧ x ≤ 2000000) (k : Nat) : 0 ≤ sumI (l.take k) ∧ sumI (l.take k) ≤ 2000000 * (l.take k).length :=
 sumI_bd fun x hx=>h x (List.mem_of_mem_take hx)
theorem mul_bd {a b A B:Int} (ha:0≤a∧a≤A) (hb:0≤b∧b≤B):0≤a*b∧a*b≤A*B:=⟨Int.mul_nonneg ha.1 hb.1,Int.mul_le_mul ha.2 hb.2 hb.1 (by omega)⟩
def swB (n:Nat) (s:Sett) (m:Nat):Int:=if s.pol=0 then (n:Int)*m else if s.pol=1 then (n:Int)*(levT s.thr.toNat 64 n:Nat)+s.thr*m else (n:Int)*n+s.thr*m
theorem swB_bd {n m t : Nat} (hn : n ≤ 64) (hm : m ≤ 30) (ht : 1 ≤ t ∧ t ≤ 64) : (0 ≤ (n : Int) * m ∧ (n : Int) * m ≤ 64 * 30) ∧ (0 ≤ (n : Int) * (levT t 64 n : Nat) ∧ (n : Int) * (levT t 64 n : Nat) ≤ 64 * 64) ∧ (0 ≤ (t : Int) * m ∧ (t : Int) * m ≤ 64 * 30) ∧ (0 ≤ (n : Int) * n ∧ (n : Int) * n ≤ 64 * 64) := by
 have hl:=levT_le t 64 n
 exact⟨mul_bd (by omega) (by omega),mul_bd (by omega) (by omega),mul_bd (by omega) (by omega),mul_bd (by omega) (by omega)⟩
theorem rqK_bd {xs : List Int} {s : Sett} {rs : List (Int × Int)} : (rqK xs s rs).length ≤ 1000 ∧ ∀ x ∈ rqK xs s rs, 0 ≤ x ∧ x ≤ 2000000 := by
 unfold rqK
 split
 ·rename_i hq
  obtain⟨h1,h2,h3,h4⟩:=areQ_parts hq
  have key : ∀ k, k ≤ rs.length → ∀ {c t ls cs}, rqN xs s rs k = (c, t, ls, cs) → ∀ x ∈ cs, 0 ≤ x ∧ x ≤ 2000000 := by
   intro k
   induction k with
   | zero =>
    intro _ c t ls cs h x hx
    have e:(newCrk xs,s,([]:List (List Int)),([]:List Int))=(c,t,ls,cs):=h
    cases e
    cases hx
   | succ k ih =>
    intro hk c t ls cs h x hx
    obtain⟨r,hrk⟩:=at_lt (l:=rs) (k:=k) (by omega)
    generalize hN:rqN xs s rs k=P at *
    obtain⟨c1,t1,ls1,cs1⟩:=P
    have hok:=rq_ok h1 h2 h4 k (by omega) hN
    have n1:=rq_next hrk hN
    rw [h] at n1
    have hw:=sw_ok hok.oc hok.os (h4 r (List.mem_of_getElem? hrk))
    have t1':=okL_tot hw.l1
    have t2':=okL_tot hw.l2
    have b1:=hw.l1.1
    have b2:=hw.l2.1
    have ih':=ih (by omega) rfl
    cases n1
    rcases List.mem_append.1 hx with hx|hx
    ·exact ih' x hx
    obtain rfl := List.mem_singleton.1 hx
    omega
  generalize hN:rqN xs s rs rs.length=P
  obtain⟨c1,t1,ls1,cs1⟩:=P
  have hok:=rq_ok h1 h2 h4 rs.length (Nat.le_refl _) hN
  have hl:=hok.lc
  dsimp only
  exact⟨by omega,key rs.length (Nat.le_refl _) hN⟩
 simp
def iwB (xs:List Int) (s:Sett) (rs:List (Int × Int)):Bool:=areQ xs s rs && decide (sumI (rqK xs s rs)≤swB xs.length s rs.length)

set_option maxRecDepth 20000 in
set_option maxHeartbeats 2000000 in
theorem c_impl_LevelsT (n t : Nat) (hn : n ≤ 64) (ht : 1 ≤ t ∧ t ≤ 64) : EFn Tryz.prog 55 [.c (.sc (.int .i64 (n : Int))), .c (.sc (.int .i64 (t : Int)))] [] (fun r S => r = .c (.sc (.int .i64 ((levT t 64 n : Nat) : Int))) ∧ S = []) := by
 refine E_fn Tryz.func55 rfl (Nat.le_of_ble_eq_true rfl) ?_
 refine E_seq ?_
 refine E_region' (L:=[0]) rfl ?_
 refine xas ?_
 refine EOps_nil ?_
 refine E_seq ?_
 refine E_seq ?_
 refine E_region' (L:=[0,1]) rfl ?_
 refine xmv ?_
 refine p_ rfl (L_bin rfl rfl rfl rfl) ?_
 refine EOps_nil ?_
 refine E_cond rfl (fun hc7=>?_) (fun hc7=>?_)
 ·simp at hc7;omega
 refine E_skip ?_
 refine E_seq ?_
 refine E_region' (L:=[0]) rfl ?_
 refine xas ?_
 refine EOps_nil ?_
 refine E_seq ?_
 refine E_seq ?_
 refine E_region' (L:=[0,1,2]) rfl ?_
 refine xmv ?_
 refine p_ rfl (L_min rfl rfl rfl) ?_
 refine xas ?_
 refine EOps_nil ?_
 refine E_block ?_
 refine e_for (α:=Nat × Nat × Nat) [1,4,7] (fun (m,j,f)=>[(0,.c (.sc (.int .i64 ((m:Int))))),(5,.c (.sc (.int .i64 ((j:Int)))))]) (fun _=>_) (fun (m,j,f)=>j+levT t f m=levT t 64 n∧m≤f∧f≤64∧j≤64) (fun (m,j,f)=>m) ((n,0,64)) ?_ (rfl) ⟨.inr (int_eq (by first|rfl|omega|(dsimp only;omega))),.inr rfl,trivial⟩ ?_
 ·exact⟨by simp,hn,Nat.le_refl _,Nat.zero_le _⟩
 rintro⟨m,j,f⟩ ⟨hj,hm,hf,hj2⟩
 dsimp only at *
 have hlv:=levT_le t 64 n
 refine E_seq ?_
 refine E_seq ?_
 refine E_region' (L:=[0,1,2]) rfl ?_
 refine xmv ?_
 refine xmv ?_
 refine p_ rfl (L_bin rfl rfl rfl rfl) ?_
 refine EOps_nil ?_
 refine E_cond rfl (fun hc12=>?_) (fun hc12=>?_)
 ·have hm1 : t < m := by simp at hc12; omega
  obtain⟨g,rfl,he⟩:=levT_step (f:=f) (n:=m) hm1 hm
  refine E_skip ?_
  refine E_seq ?_
  refine E_block ?_
  refine E_region' (L:=[0,1,2]) rfl ?_
  refine xmv ?_
  refine p_ rfl xb3 ?_
  refine xas ?_
  refine EOps_nil ?_
  refine E_region' (L:=[0,1,2]) rfl ?_
  refine xmv ?_
  refine p_ rfl (L_half m rfl rfl rfl rfl (by omega)) ?_
  refine xas ?_
  refine EOps_nil ?_
  refine⟨(m / 2,j+1,g),?_,?_,rfl,⟨.inr (int_eq (by first|rfl|(dsimp only;omega))),.inr (int_eq (by first|rfl|(dsimp only;omega))),trivial⟩,⟨.inr rfl,.inr rfl,.inr rfl,trivial⟩⟩
  ·dsimp only;omega
  exact⟨by dsimp only;omega,by dsimp only;omega,by dsimp only;omega,by dsimp only;omega⟩
 have hm1 : m ≤ t := by simp at hc12; omega
 have he:=levT_stop (t:=t) (f:=f) hm1
 refine E_exit ?_
 refine E_seq ?_
 refine E_region' (L:=[0,1]) rfl ?_
 refine xmv ?_
 refine xas ?_
 refine EOps_nil ?_
 refine E_ret ?_
 refine⟨_,[],rfl,rfl,int_eq ?_,rfl⟩
 omega

set_option maxRecDepth 20000 in
set_option maxHeartbeats 2000000 in
theorem c_impl_sumC (l : List Int) (hl : l.length ≤ 1000) (hb : ∀ x ∈ l, 0 ≤ x ∧ x ≤ 2000000) : EFn Tryz.prog 34 [.c (.ro (ints l))] [] (fun r S => r = .c (.sc (.int .i64 (sumI l))) ∧ S = []) := by
 refine E_fn Tryz.func34 rfl (Nat.le_of_ble_eq_true rfl) ?_
 refine E_seq ?_
 refine E_region' (L:=[0]) rfl ?_
 refine xas ?_
 refine EOps_nil ?_
 refine E_seq ?_
 refine E_region' (L:=[0]) rfl ?_
 refine xas ?_
 refine EOps_nil ?_
 refine E_seq ?_
 refine E_seq ?_
 refine E_region' (L:=[0,1,2]) rfl ?_
 refine xmv ?_
 refine p_ rfl (l_len rfl sl_22) ?_
 refine xmv ?_
 refine EOps_nil ?_
 refine E_block ?_
 refine e_for (α:=Nat) [0,2,6,7] (fun k=>[(8,.c (.sc (.int .i64 (k)))),(3,.c (.sc (.int .i64 ((sumI (l.take k)))))),(5,.any)]) (fun _=>_) (fun k=>k≤l.length) (fun k=>l.length - k) (0) ?_ (rfl) ⟨.inr rfl,.inr (int_eq (by simp [sumI])),.inl rfl,trivial⟩ ?_
 ·simp
 rintro k hk
 refine E_seq ?_
 refine E_region' (L:=[0]) rfl ?_
 refine p_ rfl (L_bin rfl rfl rfl rfl) ?_
 refine EOps_nil ?_
 refine E_seq ?_
 refine E_cond rfl (fun hc9=>?_) (fun hc9=>?_)
 ·have hc9' : k < (l).length := by simpa [ints_len, bools_len, pairs_len, quads_len, quints_len] using hc9
  obtain⟨x,hx⟩:∃ x,(l)[k]? = some x:=⟨_,List.getElem?_eq_getElem hc9'⟩
  have h1:=sumI_in hb k
  have h2:=hb x (List.mem_of_getElem? hx)
  have h3:(l.take k).length≤1000:=by rw [List.length_take];omega
  refine E_skip ?_
  refine E_seq ?_
  refine E_block ?_
  refine E_seq ?_
  refine E_region' (L:=[0,1,2]) rfl ?_
  refine p_ rfl (L_index rfl rfl (xii sl_22 ty_3)) ?_
  refine l_ rfl (L_load rfl (xb0 ty_3)) ?_
  refine xas ?_
  refine EOps_nil ?_
  refine E_region' (L:=[0,1,2,3]) rfl ?_
  refine xmv ?_
  refine xmv ?_
  refine p_ rfl xb3 ?_
  refine xas ?_
  refine EOps_nil ?_
  refine E_region' (L:=[0,1]) rfl ?_
  refine p_ rfl xb3 ?_
  refine xmv ?_
  refine EOps_nil ?_
  refine⟨k+1,?_,?_,rfl,⟨.inr rfl,.inr (int_eq (sumI_step hx).symm),.inl rfl,trivial⟩,⟨.inr rfl,.inr rfl,.inr rfl,.inr rfl,trivial⟩⟩
  ·first|omega|(dsimp only;omega)|(simp;omega)
  first|trivial|omega|(dsimp only;omega)|(simp;omega)
 have hk' : l.length ≤ k := by simpa [ints_len] using hc9
 rw [List.take_of_length_le hk']
 refine E_exit ?_
 refine E_seq ?_
 refine E_region' (L:=[0,1]) rfl ?_
 refine xmv ?_
 refine xas ?_
 refine EOps_nil ?_
 refine E_ret ?_
 exact⟨_,[],rfl,rfl,rfl,rfl⟩

set_option maxRecDepth 20000 in
set_option maxHeartbeats 4000000 in
theorem c_impl_SwapBound (n m : Nat) (s : Sett) (hn : n ≤ 64) (hm : m ≤ 30) (hs : isSet s = true) : EFn Tryz.prog 26 [.c (.sc (.int .i64 (n : Int))), .agg (setC s), .c (.sc (.int .i64 (m : Int)))] [] (fun r S => r = .c (.sc (.int .i64 (swB n s m))) ∧ S = []) := by
 refine E_fn Tryz.func26 rfl (Nat.le_of_ble_eq_true rfl) ?_
 obtain⟨pol,thr,seed⟩:=s
 have hsp:=set_parts hs
 dsimp only at hsp
 obtain⟨t,rfl⟩:∃ t:Nat,thr=t:=⟨thr.toNat,by omega⟩
 have hb:=swB_bd (n:=n) (m:=m) (t:=t) hn hm (by omega)
 refine E_seq ?_
 refine E_region' (L:=[0,1]) rfl ?_
 refine x_box rfl rfl rfl rfl rfl ?_
 refine xas ?_
 refine EOps_nil ?_
 refine E_seq ?_
 refine E_seq ?_
 refine E_region' (L:=[0,1,2,3,4,5,6,7,8,9,10,11,12,13,14,15,16,17,18]) rfl ?_
 refine xmv ?_
 refine p_ rfl (L_bin rfl rfl rfl rfl) ?_
 refine xmv ?_
 refine EOps_split 9 (b:=_) rfl (fun hg9=>?_) (fun hg9=>?_)
 ·simp at hg9;omega
 refine xmv ?_
 refine p_ rfl (L_bin rfl rfl rfl rfl) ?_
 refine p_ rfl (L_pick rfl rfl) ?_
 refine xmv ?_
 refine EOps_split 13 (b:=_) rfl (fun hg13=>?_) (fun hg13=>?_)
 ·simp at hg13;omega
 refine xmv ?_
 refine p_ rfl (L_bin rfl rfl rfl rfl) ?_
 refine p_ rfl (L_pick rfl rfl) ?_
 refine xmv ?_
 refine EOps_split 17 (b:=_) rfl (fun hg17=>?_) (fun hg17=>?_)
 ·simp at hg17;omega
 refine xmv ?_
 refine p_ rfl (L_bin rfl rfl rfl rfl) ?_
 refine p_ rfl (L_pick rfl rfl) ?_
 refine xmv ?_
 refine EOps_split 21 (b:=_) rfl (fun hg21=>?_) (fun hg21=>?_)
 ·simp at hg21;omega
 refine l_ rfl (L_load rfl (xb2 ty_29)) ?_
 refine x_call rfl rfl rfl rfl rfl ca_54 (c_impl_IsSettings ⟨pol,(t:Int),seed⟩) ?_
 rintro r S ⟨rfl,rfl⟩
 refine p_ rfl (L_not rfl rfl) ?_
 refine p_ rfl (L_pick rfl rfl) ?_
 refine EOps_nil ?_
 refine E_cond rfl (fun hc25=>?_) (fun hc25=>?_)
 ·simp [hs] at hc25
 refine E_skip ?_
 refine E_seq ?_
 refine E_seq ?_
 refine E_region' (L:=[0,1]) rfl ?_
 refine p_ rfl (l_field rfl fo_29_0) ?_
 refine l_ rfl (L_load rfl (xb0 ty_3)) ?_
 refine EOps_nil ?_
 refine E_block ?_
 refine E_seq ?_
 refine E_region' (L:=[0,1]) rfl ?_
 refine p_ rfl (L_bin rfl rfl rfl rfl) ?_
 refine xas ?_
 refine EOps_nil ?_
 refine E_cond rfl (fun hc28=>?_) (fun hc28=>?_)
 ·have hp : pol = 0 := by simpa using hc28
  refine E_seq ?_
  refine E_region' (L:=[0,1,2,3]) rfl ?_
  refine xmv ?_
  refine xmv ?_
  refine p_ rfl xb12 ?_
  refine xas ?_
  refine EOps_nil ?_
  refine E_ret ?_
  refine⟨_,[],rfl,rfl,int_eq ?_,rfl⟩
  simp [swB,hp]
 have hp0 : pol ≠ 0 := by simpa using hc28
 refine E_seq ?_
 refine E_region' (L:=[0,1]) rfl ?_
 refine p_ rfl (L_bin rfl rfl rfl rfl) ?_
 refine xas ?_
 refine EOps_nil ?_
 refine E_cond rfl (fun hc33=>?_) (fun hc33=>?_)
 ·have hp : pol = 1 := by simpa using hc33
  refine E_seq ?_
  refine E_drawT mixed ?_
  refine tj_ 0 rfl (L_move rfl) ?_
  refine tj_ 1 rfl (L_move rfl) ?_
  refine tj_ 2 rfl (l_field rfl fo_29_1) ?_
  refine tl_ 3 rfl (L_load rfl (xb0 ty_3)) ?_
  refine tj_ 6 rfl (l_field rfl fo_29_1) ?_
  refine tl_ 7 rfl (L_load rfl (xb0 ty_3)) ?_
  refine tj_ 8 rfl (L_move rfl) ?_
  refine tj_ 9 rfl xb12 ?_
  refine t_call 4 rfl rfl rfl rfl rfl ca_55 (c_impl_LevelsT n t hn (by omega)) ?_
  rintro r S ⟨rfl,rfl⟩
  refine tj_ 5 rfl xb12 ?_
  refine tj_ 10 rfl xb3 ?_
  refine tj_ 11 rfl (L_assign rfl) ?_
  refine T_done (by kernel_rfl) ?_
  refine E_ret ?_
  refine⟨_,[],rfl,rfl,int_eq ?_,rfl⟩
  simp [swB,hp]
 have hp1 : pol ≠ 1 := by simpa using hc33
 refine E_skip ?_
 refine E_seq ?_
 refine E_region' (L:=[0,1,2,3,4,5,6,7,8]) rfl ?_
 refine xmv ?_
 refine xmv ?_
 refine p_ rfl xb12 ?_
 refine p_ rfl (l_field rfl fo_29_1) ?_
 refine l_ rfl (L_load rfl (xb0 ty_3)) ?_
 refine xmv ?_
 refine p_ rfl xb12 ?_
 refine p_ rfl xb3 ?_
 refine xas ?_
 refine EOps_nil ?_
 refine E_ret ?_
 refine⟨_,[],rfl,rfl,int_eq ?_,rfl⟩
 simp [swB,hp0,hp1]

set_option maxRecDepth 20000 in
set_option maxHeartbeats 4000000 in
theorem c_impl_IsWithinBound (xs : List Int) (s : Sett) (rs : List (Int × Int)) : EFn Tryz.prog 10 [.c (.ro (ints xs)), .agg (setC s), .c (.ro (pairs rs))] [] (fun r S => r = .c (.sc (.bool (iwB xs s rs))) ∧ S = []) := by
 refine E_fn Tryz.func10 rfl (Nat.le_of_ble_eq_true rfl) ?_
 refine E_seq ?_
 refine E_region' (L:=[0,1]) rfl ?_
 refine x_box rfl rfl rfl rfl rfl ?_
 refine xas ?_
 refine EOps_nil ?_
 refine E_seq ?_
 refine E_seq ?_
 refine e_tidy_A37_2 [0,1,2,4,6] ?_
 refine E_region' (L:=[0,1,2,3,4]) rfl ?_
 refine xmv ?_
 refine l_ rfl (L_load rfl (xb0 ty_29)) ?_
 refine xmv ?_
 refine x_call rfl rfl rfl rfl rfl ca_33 (c_impl_areQueries xs s rs) ?_
 rintro r S ⟨rfl,rfl⟩
 refine p_ rfl (L_not rfl rfl) ?_
 refine EOps_nil ?_
 refine E_cond rfl (fun hc14=>?_) (fun hc14=>?_)
 ·have hq : areQ xs s rs = false := by simpa using hc14
  refine E_seq ?_
  refine E_region' (L:=[0]) rfl ?_
  refine xas ?_
  refine EOps_nil ?_
  refine E_ret ?_
  refine⟨_,[],rfl,rfl,bool_eq ?_,rfl⟩
  simp [iwB,hq]
 have hq : areQ xs s rs = true := by simpa using hc14
 obtain⟨q1,q2,q3,q4⟩:=areQ_parts hq
 have hx64:=(areVals_parts q1).1
 have hkb:=rqK_bd (xs:=xs) (s:=s) (rs:=rs)
 refine E_skip ?_
 refine E_seq ?_
 refine e_tidy_A37_2 [0,1,2,4,6,14] ?_
 refine E_region' (L:=[0,1,2,3,4,5,6,7,8,9,10,11]) rfl ?_
 refine xmv ?_
 refine l_ rfl (L_load rfl (xb0 ty_29)) ?_
 refine xmv ?_
 refine x_call rfl rfl rfl rfl rfl ca_15 (c_impl_RunQueries xs s rs) ?_
 rintro r S ⟨rfl,rfl⟩
 refine xmv ?_
 refine p_ rfl (L_extract rfl rfl) ?_
 refine p_ rfl (L_extract rfl rfl) ?_
 refine p_ rfl (L_extract rfl rfl) ?_
 refine x_alloc rfl rfl rfl rfl za_42 ?_
 refine EOps_go rfl rfl (EOp_store rfl rfl rfl (xb1 ty_42) ?_)
 refine xas ?_
 refine xas ?_
 refine EOps_nil ?_
 refine E_seq ?_
 refine e_tidy_A37_2 [0,1,2,4,6,9,14] ?_
 refine E_drawT mixed ?_
 refine tj_ 0 rfl (L_move rfl) ?_
 refine tj_ 2 rfl (L_move rfl) ?_
 refine tj_ 3 rfl (l_len rfl sl_22) ?_
 refine tl_ 4 rfl (L_load rfl (xb0 ty_29)) ?_
 refine tj_ 5 rfl (L_move rfl) ?_
 refine tj_ 6 rfl (l_len rfl sl_31) ?_
 refine t_fresh 2 [(⟨none,1,24,0⟩,_),(⟨none,7,30,0⟩,_)] [(24,.any),(30,.any)] [1,7] ⟨.one rfl rfl rfl (by decide) (f_call rfl rfl ca_34 (c_impl_sumC (rqK xs s rs) hkb.1 hkb.2)),.one rfl rfl rfl (by decide) (f_call rfl rfl ca_26 (c_impl_SwapBound xs.length rs.length s hx64 q3 q2) (ha:=by exact cons_eq (by show AV.c (AC.sc (Value.int .i64 ((ints xs).length:Int)))=_;rw [ints_len]) (cons_eq rfl (cons_eq (by show AV.c (AC.sc (Value.int .i64 ((pairs rs).length:Int)))=_;rw [pairs_len]) rfl)))),trivial⟩ ?_
 refine fk_cons ?_
 rintro r S ⟨rfl,rfl⟩
 refine fk_cons ?_
 rintro r S ⟨rfl,rfl⟩
 refine fk_nil ?_
 refine tp_ 8 rfl (L_bin rfl rfl rfl rfl) ?_
 refine tj_ 9 rfl (L_assign rfl) ?_
 refine T_done (by kernel_rfl) ?_
 refine E_ret ?_
 refine⟨_,[],rfl,rfl,bool_eq ?_,rfl⟩
 simp [iwB,hq]

end Go.Proofs.YtjbbjicochipeaaGreat.E
