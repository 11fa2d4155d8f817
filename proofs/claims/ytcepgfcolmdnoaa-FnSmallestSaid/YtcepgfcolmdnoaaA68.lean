/- Walks through functions, by program out of the session's annotations. -/
import Derived.Test.YtcepgfcolmdnoaaA61
import Derived.Test.YtcepgfcolmdnoaaF4
namespace Go.Proofs.Ytcepgfcolmdnoaa.E
open Go Go.RowKit Go.Proofs
set_option linter.unusedVariables false
set_option linter.unusedSimpArgs false

/-- The largest values. -/
def lgC (c:Crk) (k:Int):Crk:=if cpK c k=true then cpC c (c.vals.length - k) else c
def lgL (c:Crk) (k:Int):List Int:=if cpK c k=true then (sortI (cutV (cpC c (c.vals.length - k)).vals (c.vals.length - k) c.vals.length)).reverse else []
theorem cpK_rev {c : Crk} {k : Int} (h : cpK c k = true) : cpK c (c.vals.length - k) = true := by
 have:=cpK_parts h
 simp only [cpK,Bool.and_eq_true,decide_eq_true_eq]
 exact⟨⟨this.1,by omega⟩,by omega⟩
theorem rev_end {l cur : List Int} {j : Nat} (hl : cur.length = l.length) (hj : ¬ ((j : Int) < (l.length : Int) - 1 - j)) (hq : ∀ q, q < l.length → cur[q]? = if q < j ∨ l.length ≤ q + j then l[l.length - 1 - q]? else l[q]?) : cur = l.reverse := by
 apply List.ext_getElem?
 intro q
 rcases Nat.lt_or_ge q l.length with h|h
 ·rw [hq q h, List.getElem?_reverse h]
  split
  ·rfl
  have : l.length - 1 - q = q := by omega
  rw [this]
 rw [List.getElem?_eq_none (by omega),List.getElem?_eq_none (by rw [List.length_reverse];omega)]
theorem rev_step {l cur : List Int} {j : Nat} {x y : Int} (hl : cur.length = l.length) (hj : (j : Int) < (l.length : Int) - 1 - j) (hq : ∀ q, q < l.length → cur[q]? = if q < j ∨ l.length ≤ q + j then l[l.length - 1 - q]? else l[q]?) (hx : cur[j]? = some x) (hy : cur[((l.length : Int) - 1 - j).toNat]? = some y) :
  ∀ q,q<l.length→((cur.set j y).set ((l.length:Int) - 1 - j).toNat x)[q]? = if q<j+1∨l.length≤q+(j+1) then l[l.length - 1 - q]? else l[q]? := by
 intro q hqn
 have he:((l.length:Int) - 1 - j).toNat=l.length - 1 - j:=by omega
 rw [he] at hy ⊢
 have hx0:=hq j (by omega)
 have hy0:=hq (l.length - 1 - j) (by omega)
 rw [if_neg (by omega),hx] at hx0
 rw [if_neg (by omega),hy] at hy0
 rw [List.getElem?_set,List.getElem?_set]
 by_cases h1:l.length - 1 - j=q
 ·rw [if_pos h1, if_pos (by rw [List.length_set]; omega), if_pos (by omega), hx0]
  congr 1;omega
 rw [if_neg h1]
 by_cases h2:j=q
 ·rw [if_pos h2, if_pos (by omega), if_pos (by omega), hy0]
  congr 1;omega
 rw [if_neg h2, hq q hqn]
 by_cases h3:q<j∨l.length≤q+j
 ·rw [if_pos h3,if_pos (by omega)]
 rw [if_neg h3,if_neg (by omega)]

set_option maxRecDepth 20000 in
set_option maxHeartbeats 2000000 in
theorem c_slices_Reverse___int_int_ (l : List Int) (n : Nat) (hn : l.length = n) (hb : n ≤ 1048576) : EFn Try.prog 136 [.c (.sl 0 0 n n)] [.row 3 1 (ints l)] (fun r S => r = .tup [] ∧ S = [.row 3 1 (ints l.reverse)]) := by
 refine E_fnM Try.func136 rfl (Nat.le_of_ble_eq_true rfl) ?_
 subst hn
 refine E_seq ?_
 refine E_region' (L:=[0,1,2,3,4]) rfl ?_
 refine xmv ?_
 refine p_ rfl (l_len rfl sl_24) ?_
 refine p_ rfl xb4 ?_
 refine xas ?_
 refine xas ?_
 refine EOps_nil ?_
 refine E_block ?_
 refine e_for (α:=Nat × List Int) [0] (fun (j,cur)=>[(2,.c (.sc (.int .i64 (j)))),(3,.c (.sc (.int .i64 (((l.length:Int) - 1 - j)))))]) (fun (j,cur)=>[.row 3 1 (ints cur)]) (fun (j,cur)=>cur.length=l.length∧j≤l.length ∧ ∀ q,q<l.length→cur[q]? = if q<j∨l.length≤q+j then l[l.length - 1 - q]? else l[q]?) (fun (j,cur)=>l.length - j) ((0,l)) ?_ (rfl) ⟨.inr rfl,.inr (int_eq (by simp)),trivial⟩ ?_
 ·exact⟨rfl,Nat.zero_le _,fun q hq=>by rw [if_neg (by omega)]⟩
 rintro⟨j,cur⟩ ⟨hcl,hjl,hq⟩
 dsimp only
 refine E_seq ?_
 refine E_seq ?_
 refine E_region' (L:=[0,1,2]) rfl ?_
 refine xmv ?_
 refine xmv ?_
 refine p_ rfl (L_bin rfl rfl rfl rfl) ?_
 refine EOps_nil ?_
 refine E_cond rfl (fun hc9=>?_) (fun hc9=>?_)
 ·have hlt : (j : Int) < (l.length : Int) - 1 - j := by simpa using hc9
  obtain⟨x,hx⟩:=at_lt (l:=cur) (k:=j) (by omega)
  obtain⟨y,hy⟩:=at_lt (l:=cur) (k:=((l.length:Int) - 1 - j).toNat) (by omega)
  have hst:=rev_step hcl hlt hq hx hy
  refine E_skip ?_
  refine E_seq ?_
  refine E_block ?_
  refine E_drawB mixed ?_
  refine b_pure 0 rfl rfl rfl (L_move rfl) ?_
  refine b_pure 1 rfl rfl rfl (L_move rfl) ?_
  refine b_pure 2 rfl rfl rfl (L_move rfl) ?_
  refine b_pure 3 rfl rfl rfl (L_move rfl) ?_
  refine b_pure 4 rfl rfl rfl (L_move rfl) ?_
  refine b_pure 5 rfl rfl rfl (L_move rfl) ?_
  refine b_pure 6 rfl rfl rfl (L_index rfl rfl (xii sl_24 ty_3)) ?_
  refine b_pure 8 rfl rfl rfl (L_move rfl) ?_
  refine b_pure 9 rfl rfl rfl (L_move rfl) ?_
  refine b_pure 10 rfl rfl rfl (L_index rfl rfl (xii sl_24 ty_3)) ?_
  refine B_two 7 11 ?_ ?_
  ·refine b_see 7 rfl rfl rfl (L_load rfl (xb5 ty_3)) ?_
   refine B_one 11 ?_
   refine b_see 11 rfl rfl rfl (L_load rfl (xb0 ty_3)) ?_
   refine b_pure 12 rfl rfl rfl (L_index rfl rfl (xii sl_24 ty_3)) ?_
   refine B_one 13 ?_
   refine b_store 13 rfl rfl rfl rfl rfl rfl (s_ep ty_3) ?_
   refine b_pure 14 rfl rfl rfl (L_index rfl rfl (xii sl_24 ty_3)) ?_
   refine B_one 15 ?_
   refine b_store 15 rfl rfl rfl rfl rfl rfl (s_ep (row:=[T.sc (.int .i64 y)]) ty_3 (hr:=by simp only [Int.toNat_natCast,Nat.zero_add];exact set_atI hy)) ?_
   refine B_done (by kernel_rfl) ?_
   refine E_region' (L:=[0,1,2,3,4,5]) rfl ?_
   refine xmv ?_
   refine p_ rfl xb2 ?_
   refine xmv ?_
   refine p_ rfl xb4 ?_
   refine xas ?_
   refine xas ?_
   refine EOps_nil ?_
   refine⟨(j+1,(cur.set j y).set ((l.length:Int) - 1 - j).toNat x),?_,?_,(by rw [← ints_set,← ints_set];simp only [Int.toNat_natCast,Nat.zero_add];rfl),⟨.inr rfl,.inr (int_eq (by dsimp only;omega)),trivial⟩,⟨.inr rfl,trivial⟩⟩
   ·first|omega|(dsimp only;omega)|(simp;omega)
   exact⟨by dsimp only;rw [List.length_set,List.length_set];exact hcl,by dsimp only;omega,hst⟩
  refine b_see 11 rfl rfl rfl (L_load rfl (xb5 ty_3)) ?_
  refine B_one 7 ?_
  refine b_see 7 rfl rfl rfl (L_load rfl (xb0 ty_3)) ?_
  refine b_pure 12 rfl rfl rfl (L_index rfl rfl (xii sl_24 ty_3)) ?_
  refine B_one 13 ?_
  refine b_store 13 rfl rfl rfl rfl rfl rfl (s_ep ty_3) ?_
  refine b_pure 14 rfl rfl rfl (L_index rfl rfl (xii sl_24 ty_3)) ?_
  refine B_one 15 ?_
  refine b_store 15 rfl rfl rfl rfl rfl rfl (s_ep (row:=[T.sc (.int .i64 y)]) ty_3 (hr:=by simp only [Int.toNat_natCast,Nat.zero_add];exact set_atI hy)) ?_
  refine B_done (by kernel_rfl) ?_
  refine E_region' (L:=[0,1,2,3,4,5]) rfl ?_
  refine xmv ?_
  refine p_ rfl xb2 ?_
  refine xmv ?_
  refine p_ rfl xb4 ?_
  refine xas ?_
  refine xas ?_
  refine EOps_nil ?_
  refine⟨(j+1,(cur.set j y).set ((l.length:Int) - 1 - j).toNat x),?_,?_,(by rw [← ints_set,← ints_set];simp only [Int.toNat_natCast,Nat.zero_add];rfl),⟨.inr rfl,.inr (int_eq (by dsimp only;omega)),trivial⟩,⟨.inr rfl,trivial⟩⟩
  ·first|omega|(dsimp only;omega)|(simp;omega)
  exact⟨by dsimp only;rw [List.length_set,List.length_set];exact hcl,by dsimp only;omega,hst⟩
 have hge : ¬ (j : Int) < (l.length : Int) - 1 - j := by simpa using hc9
 have he:=rev_end hcl hge hq
 refine E_exit ?_
 exact ⟨_, rfl, ⟨by simp, fun q cs hq h => by
   have:q=0:=by simpa using hq
   subst this
   cases h⟩,rfl,by rw [he];rfl⟩

set_option maxRecDepth 20000 in
set_option maxHeartbeats 4000000 in
theorem c_impl_LargestValues (c : Crk) (k : Int) (hb : c.vals.length ≤ 1048576 ∧ c.rows.length ≤ 1048576 ∧ c.piv.length ≤ 1048576) : EFn Try.prog 57 [.agg (crkC c), .c (.sc (.int .i64 k))] [] (fun r S => r = .tup [(true, crkO 0 (lgC c k)), (false, [.sl 3 0 (lgL c k).length (lgL c k).length])] ∧ S = crkR 3 129 (lgC c k) ++ [.row 3 1 (ints (lgL c k))]) := by
 refine E_fn Try.func57 rfl (Nat.le_of_ble_eq_true rfl) ?_
 have hil:=ints_len c.vals
 refine E_seq ?_
 refine E_region' (L:=[0,1,2]) rfl ?_
 refine x_box rfl rfl rfl rfl rfl ?_
 refine x_alloc rfl rfl rfl rfl za_27 ?_
 refine xas ?_
 refine EOps_nil ?_
 refine E_seq ?_
 refine E_region' (L:=[0,1,2,3]) rfl ?_
 refine p_ rfl (l_field rfl fo_27_0) ?_
 refine l_ rfl (L_load rfl (xb0 ty_24)) ?_
 refine p_ rfl (l_len rfl sl_24) ?_
 refine xas ?_
 refine EOps_nil ?_
 refine E_seq ?_
 refine E_seq ?_
 refine e_tidy_A37_2 [0,1,2,4,5,6] ?_
 refine E_region' (L:=[0,1,2,3,4,5,6,7,8,9,10,11]) rfl ?_
 refine l_ rfl (L_load rfl (xb0 ty_27)) ?_
 refine x_call rfl rfl rfl rfl rfl ca_28 (c_impl_IsCracker c) ?_
 rintro r S ⟨rfl,rfl⟩
 refine p_ rfl (L_not rfl rfl) ?_
 refine xmv ?_
 refine EOps_split 17 (b:=_) rfl (fun hg17=>?_) (fun hg17=>?_)
 ·refine s_ rfl ?_
  refine s_ rfl ?_
  refine p_ rfl (L_pick rfl rfl) ?_
  refine xmv ?_
  refine s_ rfl ?_
  refine s_ rfl ?_
  refine s_ rfl ?_
  refine p_ rfl (L_pick rfl rfl) ?_
  refine EOps_nil ?_
  refine E_cond rfl (fun hc25=>?_) (fun hc25=>?_)
  ·have hK : cpK c k = false := by
    cases hK:cpK c k
    ·rfl
    exfalso
    obtain⟨q1,q2,q3⟩:=cpK_parts hK
    first
     | (rw [q1] at hg17;exact Bool.noConfusion hg17)
     | (simp at hg21;omega)
     | (simp [ints_len] at hc25;omega)
   have hC:lgC c k=c:=by rw [lgC,hK];rfl
   have hV:lgL c k=[]:=by rw [lgL,hK];rfl
   refine E_seq ?_
   refine e_tidy_A37_2 [0,1,2,4,5,6,25] ?_
   refine E_region' (L:=[0,1,2,3]) rfl ?_
   refine l_ rfl (L_load rfl (xb0 ty_27)) ?_
   refine x_call rfl rfl rfl rfl rfl ca_95 (c_impl_copyCracker c hb) ?_
   rintro r S ⟨rfl,rfl⟩
   refine EOps_go rfl rfl (EOp_store rfl rfl rfl (xb1 ty_27) ?_)
   refine xas ?_
   refine EOps_nil ?_
   refine E_ghostS 5 3 1 rfl (by decide) ?_
   refine E_ret ?_
   rw [hC,hV]
   exact⟨_,[2,3,4,5],rfl,rfl,rfl,rfl⟩
  exact Bool.noConfusion (hc25:true=false)
 refine xmv ?_
 refine p_ rfl (L_bin rfl rfl rfl rfl) ?_
 refine p_ rfl (L_pick rfl rfl) ?_
 refine xmv ?_
 refine EOps_split 21 (b:=_) rfl (fun hg21=>?_) (fun hg21=>?_)
 ·refine s_ rfl ?_
  refine s_ rfl ?_
  refine s_ rfl ?_
  refine p_ rfl (L_pick rfl rfl) ?_
  refine EOps_nil ?_
  refine E_cond rfl (fun hc25=>?_) (fun hc25=>?_)
  ·have hK : cpK c k = false := by
    cases hK:cpK c k
    ·rfl
    exfalso
    obtain⟨q1,q2,q3⟩:=cpK_parts hK
    first
     | (rw [q1] at hg17;exact Bool.noConfusion hg17)
     | (simp at hg21;omega)
     | (simp [ints_len] at hc25;omega)
   have hC:lgC c k=c:=by rw [lgC,hK];rfl
   have hV:lgL c k=[]:=by rw [lgL,hK];rfl
   refine E_seq ?_
   refine e_tidy_A37_2 [0,1,2,4,5,6,25] ?_
   refine E_region' (L:=[0,1,2,3]) rfl ?_
   refine l_ rfl (L_load rfl (xb0 ty_27)) ?_
   refine x_call rfl rfl rfl rfl rfl ca_95 (c_impl_copyCracker c hb) ?_
   rintro r S ⟨rfl,rfl⟩
   refine EOps_go rfl rfl (EOp_store rfl rfl rfl (xb1 ty_27) ?_)
   refine xas ?_
   refine EOps_nil ?_
   refine E_ghostS 5 3 1 rfl (by decide) ?_
   refine E_ret ?_
   rw [hC,hV]
   exact⟨_,[2,3,4,5],rfl,rfl,rfl,rfl⟩
  exact Bool.noConfusion (hc25:true=false)
 refine xmv ?_
 refine xmv ?_
 refine p_ rfl (L_bin rfl rfl rfl rfl) ?_
 refine p_ rfl (L_pick rfl rfl) ?_
 refine EOps_nil ?_
 refine E_cond rfl (fun hc25=>?_) (fun hc25=>?_)
 ·have hK : cpK c k = false := by
   cases hK:cpK c k
   ·rfl
   exfalso
   obtain⟨q1,q2,q3⟩:=cpK_parts hK
   first
    | (rw [q1] at hg17;exact Bool.noConfusion hg17)
    | (simp at hg21;omega)
    | (simp [ints_len] at hc25;omega)
  have hC:lgC c k=c:=by rw [lgC,hK];rfl
  have hV:lgL c k=[]:=by rw [lgL,hK];rfl
  refine E_seq ?_
  refine e_tidy_A37_2 [0,1,2,4,5,6,25] ?_
  refine E_region' (L:=[0,1,2,3]) rfl ?_
  refine l_ rfl (L_load rfl (xb0 ty_27)) ?_
  refine x_call rfl rfl rfl rfl rfl ca_95 (c_impl_copyCracker c hb) ?_
  rintro r S ⟨rfl,rfl⟩
  refine EOps_go rfl rfl (EOp_store rfl rfl rfl (xb1 ty_27) ?_)
  refine xas ?_
  refine EOps_nil ?_
  refine E_ghostS 5 3 1 rfl (by decide) ?_
  refine E_ret ?_
  rw [hC,hV]
  exact⟨_,[2,3,4,5],rfl,rfl,rfl,rfl⟩
 have hcv : isCrk c = true ∧ 0 ≤ k ∧ k ≤ c.vals.length := by
  simp at hg21
  simp [ints_len] at hc25
  exact⟨by simpa using hg17,by omega,by omega⟩
 have hK:cpK c k=true:=by simp [cpK,hcv]
 have hok:=cpC_ok (cpK_rev hK)
 have hC:lgC c k=cpC c (c.vals.length - k):=by rw [lgC,if_pos hK]
 have hV:lgL c k=(sortI (cutV (cpC c (c.vals.length - k)).vals (c.vals.length - k) c.vals.length)).reverse:=by rw [lgL,if_pos hK]
 refine E_skip ?_
 refine E_seq ?_
 refine e_tidy_A37_2 [0,1,2,4,5,6,25] ?_
 refine E_region' (L:=[0,1,2,3,4,5,6,7,8,9,10,11,12]) rfl ?_
 refine l_ rfl (L_load rfl (xb0 ty_27)) ?_
 refine xmv ?_
 refine xmv ?_
 refine p_ rfl xb4 ?_
 refine x_call rfl rfl rfl rfl rfl ca_55 (c_impl_CrackPosition c (((ints c.vals).length:Int) - k) hb) ?_
 rintro r S ⟨rfl,rfl⟩
 rw [ints_len c.vals]
 generalize cpC c (c.vals.length - k)=q at *
 generalize cpN c (c.vals.length - k)=nn at *
 generalize cpK c (c.vals.length - k)=kk at *
 obtain⟨kn,rfl⟩:∃ kn:Nat,k=kn:=⟨_,(Int.toNat_of_nonneg hcv.2.1).symm⟩
 obtain⟨a,ha⟩:∃ a:Nat,(c.vals.length:Int) - kn=a:=⟨_,(Int.toNat_of_nonneg (by omega)).symm⟩
 have hlq:=crk_lens hok.1
 have hle2:(cutV q.vals a q.vals.length).length≤1048576:=by rw [cutV,List.length_take,List.length_drop];omega
 rw [ha,← hok.2] at hV
 refine xmv ?_
 refine p_ rfl (L_extract rfl rfl) ?_
 refine p_ rfl (L_extract rfl rfl) ?_
 refine p_ rfl (L_extract rfl rfl) ?_
 refine x_alloc rfl rfl rfl rfl za_27 ?_
 refine EOps_go rfl rfl (EOp_store rfl rfl rfl (xb1 ty_27) ?_)
 refine xas ?_
 refine xas ?_
 refine EOps_nil ?_
 refine E_seq ?_
 refine e_tidy_A37_2 [0,1,2,4,5,6,7,25] ?_
 refine E_region' (L:=[0,1,2,3,4,5,6,7]) rfl ?_
 refine p_ rfl (l_field rfl fo_27_0) ?_
 refine l_ rfl (L_load rfl (xb0 ty_24)) ?_
 refine xmv ?_
 refine xmv ?_
 refine p_ rfl (Pure.as (l_sub rfl rfl rfl) (y':=.c (.sc (.int .i64 (a:Int)))) (int_eq (by omega))) ?_
 refine p_ rfl (by first|exact L_slice_ro (l:=a) (h:=q.vals.length) rfl sl_24 ty_3 rfl rfl rfl (by first|omega|(simp [ints_len,pairs_len,quads_len,quints_len,bools_len];omega)|(simp [ints_len,pairs_len,quads_len,quints_len,bools_len] at *;omega)) (by first|omega|(simp [ints_len,pairs_len,quads_len,quints_len,bools_len];omega)|(simp [ints_len,pairs_len,quads_len,quints_len,bools_len] at *;omega)) (by first|exact fun r hr=>(ints_row _ r hr).1|exact fun r hr=>(pairs_row _ r hr).1|exact fun r hr=>(quads_row _ r hr).1|exact fun r hr=>(quints_row _ r hr).1|exact fun r hr=>(bools_row _ r hr).1)|exact L_slice_sl (l:=a) (h:=q.vals.length) rfl sl_24 ty_3 rfl (by first|rfl|assumption) (by first|assumption|exact ints_len _|exact pairs_len _|exact quads_len _|exact quints_len _|exact bools_len _|(simp [ints_len,bools_len,pairs_len,quads_len,quints_len,part_len, *];done)|(simp [ints_len,bools_len,pairs_len,quads_len,quints_len];omega)|rfl) rfl rfl (by first|omega|(simp [ints_len,pairs_len,quads_len,quints_len,bools_len];omega)|(simp [ints_len,pairs_len,quads_len,quints_len,bools_len] at *;omega)) (by first|omega|(simp [ints_len,pairs_len,quads_len,quints_len,bools_len];omega)|(simp [ints_len,pairs_len,quads_len,quints_len,bools_len] at *;omega))) ?_
 refine x_call rfl rfl rfl rfl rfl ca_101 (c_impl_SortInts (cutV q.vals a q.vals.length) hle2) ?_ (ha:=by exact cons_eq (lend_cutI rfl rfl) rfl)
 rintro r S ⟨rfl,rfl⟩
 have hls:(sortI (cutV q.vals a q.vals.length)).length≤64:=by rw [sortI_len,cutV,List.length_take,List.length_drop];omega
 generalize sortI (cutV q.vals a q.vals.length)=l at *
 refine xas ?_
 refine EOps_nil ?_
 refine E_seq ?_
 refine e_tidy_A37_2 [0,1,2,4,5,6,7,10,25] ?_
 refine E_region' (L:=[0,1]) rfl ?_
 refine xmv ?_
 refine x_frame [6] rfl rfl rfl rfl rfl ca_136 rfl (c_slices_Reverse___int_int_ l l.length rfl (by omega)) ?_
 rintro r S ⟨r0,S0,⟨rfl,rfl⟩,rfl,rfl⟩
 refine EOps_nil ?_
 refine E_seq ?_
 refine E_region' (L:=[0,1,2,3]) rfl ?_
 refine l_ rfl (L_load rfl (xb0 ty_27)) ?_
 refine xmv ?_
 refine EOps_go rfl rfl (EOp_store rfl rfl rfl (xb1 ty_27) ?_)
 refine xas ?_
 refine EOps_nil ?_
 refine E_ret ?_
 rw [hC,hV]
 refine⟨_,[2,3,4,6],rfl,rfl,?_,rfl⟩
 rw [List.length_reverse];rfl

end Go.Proofs.Ytcepgfcolmdnoaa.E
