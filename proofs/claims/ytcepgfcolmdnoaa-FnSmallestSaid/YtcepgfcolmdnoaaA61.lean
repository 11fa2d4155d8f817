/- Walks through functions, by program out of the session's annotations. -/
import Derived.Test.YtcepgfcolmdnoaaA89
import Derived.Test.YtcepgfcolmdnoaaA54
import Derived.Test.YtcepgfcolmdnoaaF4
namespace Go.Proofs.Ytcepgfcolmdnoaa.E
open Go Go.RowKit Go.Proofs
set_option linter.unusedVariables false
set_option linter.unusedSimpArgs false

def posAn (c:Crk) (k:Int) (j:Nat):Int:=((atsL c).take j).foldl (aE k) (if k=c.vals.length then k else 0)
def posBn (c:Crk) (k:Int) (j:Nat):Int:=((atsL c).take j).foldl (bE k) c.vals.length
def endAn (c:Crk) (k:Int) (j:Nat):Int:=((endsL c).take j).foldl (aE k) 0
def endBn (c:Crk) (k:Int) (j:Nat):Int:=((endsL c).take j).foldl (bE k) c.vals.length
theorem ats_at {c:Crk} {j:Nat} {p:Int × Int} (h:c.piv[j]? = some p):(atsL c)[j]? = some p.2:=by rw [atsL,List.getElem?_map,h];rfl
theorem atsL_len (c:Crk):(atsL c).length=c.piv.length:=by simp [atsL]
theorem posAn_step {c : Crk} {k : Int} {j : Nat} {p : Int × Int} (h : c.piv[j]? = some p) : posAn c k (j + 1) = aE k (posAn c k j) p.2 := by
 rw [posAn,take_snoc (ats_at h),List.foldl_append];rfl
theorem posBn_step {c : Crk} {k : Int} {j : Nat} {p : Int × Int} (h : c.piv[j]? = some p) : posBn c k (j + 1) = bE k (posBn c k j) p.2 := by
 rw [posBn,take_snoc (ats_at h),List.foldl_append];rfl
theorem endAn_step {c : Crk} {k : Int} {j : Nat} {e : Int} (h : (endsL c)[j]? = some e) : endAn c k (j + 1) = aE k (endAn c k j) e := by
 rw [endAn,take_snoc h,List.foldl_append];rfl
theorem endBn_step {c : Crk} {k : Int} {j : Nat} {e : Int} (h : (endsL c)[j]? = some e) : endBn c k (j + 1) = bE k (endBn c k j) e := by
 rw [endBn,take_snoc h,List.foldl_append];rfl
theorem posAn_all {c : Crk} {k : Int} {j : Nat} (h : c.piv.length ≤ j) : posAn c k j = posA c k := by
 rw [posAn,List.take_of_length_le (by rw [atsL_len];exact h)];rfl
theorem posBn_all {c : Crk} {k : Int} {j : Nat} (h : c.piv.length ≤ j) : posBn c k j = posB c k := by
 rw [posBn,List.take_of_length_le (by rw [atsL_len];exact h)];rfl
theorem endAn_all {c : Crk} {k : Int} {j : Nat} (hc : isCrk c = true) (hk : 0 ≤ k ∧ k ≤ c.vals.length) (h : c.piv.length + 1 ≤ j) : endAn c k j = posA c k := by
 rw [endAn,List.take_of_length_le (by rw [endsL_len];exact h)];exact posA_ends hc hk
theorem endBn_all {c : Crk} {k : Int} {j : Nat} (h : c.piv.length + 1 ≤ j) : endBn c k j = posB c k := by
 rw [endBn,List.take_of_length_le (by rw [endsL_len];exact h)];exact posB_ends
theorem minF_spec : ∀ (xs : List Int) (a : Int), minF a xs ≤ a ∧ (∀ x ∈ xs, minF a xs ≤ x) ∧ (minF a xs = a ∨ minF a xs ∈ xs)
 | [],a=>⟨Int.le_refl _,by simp,.inl rfl⟩
 | y :: xs, a => by
  obtain⟨h1,h2,h3⟩:=minF_spec xs (if y<a then y else a)
  have e:minF a (y::xs)=minF (if y<a then y else a) xs:=rfl
  rw [e]
  have h4:(if y<a then y else a)≤a∧(if y<a then y else a)≤y∧((if y<a then y else a)=a∨(if y<a then y else a)=y):=by split<;>omega
  refine⟨by omega,fun x hx=>?_,?_⟩
  ·rcases List.mem_cons.1 hx with rfl | hx
   ·omega
   exact h2 x hx
  rcases h3 with h3 | h3
  ·rcases h4.2.2 with h5 | h5
   ·exact .inl (h3.trans h5)
   exact .inr (List.mem_cons.2 (.inl (h3.trans h5)))
  exact .inr (List.mem_cons_of_mem _ h3)
theorem maxF_spec : ∀ (xs : List Int) (a : Int), a ≤ maxF a xs ∧ (∀ x ∈ xs, x ≤ maxF a xs) ∧ (maxF a xs = a ∨ maxF a xs ∈ xs)
 | [],a=>⟨Int.le_refl _,by simp,.inl rfl⟩
 | y :: xs, a => by
  obtain⟨h1,h2,h3⟩:=maxF_spec xs (if a<y then y else a)
  have e:maxF a (y::xs)=maxF (if a<y then y else a) xs:=rfl
  rw [e]
  have h4:a≤(if a<y then y else a)∧y≤(if a<y then y else a)∧((if a<y then y else a)=a∨(if a<y then y else a)=y):=by split<;>omega
  refine⟨by omega,fun x hx=>?_,?_⟩
  ·rcases List.mem_cons.1 hx with rfl | hx
   ·omega
   exact h2 x hx
  rcases h3 with h3 | h3
  ·rcases h4.2.2 with h5 | h5
   ·exact .inl (h3.trans h5)
   exact .inr (List.mem_cons.2 (.inl (h3.trans h5)))
  exact .inr (List.mem_cons_of_mem _ h3)
theorem same_minmax {l : List Int} (h : 0 < l.length) : allSame l = decide (minL l = maxL l) := by
 match l,h with
 | a :: t, _ =>
  obtain⟨h1,h2,h3⟩:=minF_spec t a
  obtain⟨k1,k2,k3⟩:=maxF_spec t a
  rw [Bool.eq_iff_iff,decide_eq_true_eq]
  simp only [allSame,List.all_eq_true,decide_eq_true_eq,minL,maxL]
  have h0:(a::t).getD 0 0=a:=rfl
  rw [h0]
  constructor
  ·intro h
   have e1 : minF a t = a := by
    rcases h3 with h3|h3
    ·exact h3
    exact h _ (List.mem_cons_of_mem _ h3)
   have e2 : maxF a t = a := by
    rcases k3 with k3|k3
    ·exact k3
    exact h _ (List.mem_cons_of_mem _ k3)
   rw [e1,e2]
  intro h x hx
  rcases List.mem_cons.1 hx with rfl|hx
  ·rfl
  have := h2 x hx
  have:=k2 x hx
  omega
theorem cutV_at {xs : List Int} {a b j : Nat} (h : a + j < b) : (cutV xs a b)[j]? = xs[a + j]? := by
 rw [cutV,List.getElem?_take,if_pos (by omega),List.getElem?_drop];simp
theorem pos_ab {c : Crk} {k : Int} (hc : isCrk c = true) (hk : 0 ≤ k ∧ k ≤ c.vals.length) : posA c k ≤ posB c k ∧ 0 ≤ posB c k := by
 have hp:=pos_in hc hk
 by_cases h:k=c.vals.length
 ·have : ∀ (l : List Int) (b : Int), (∀ e ∈ l, e ≤ k) → l.foldl (bE k) b = b := by
   intro l
   induction l with
   | nil=>intro b _;rfl
   | cons x l ih =>
    intro b hl
    rw [List.foldl_cons,ih _ fun e he=>hl e (List.mem_cons_of_mem _ he),bE,if_pos (hl x (List.mem_cons_self ..))]
  have e:posB c k=c.vals.length:=this _ _ fun e he=>by have:=(ats_in hc e he).2;omega
  omega
 have := bE_gt k (atsL c) c.vals.length (by omega)
 have:k<posB c k:=this
 omega
def cpK (c:Crk) (k:Int):Bool:=isCrk c && decide (0≤k) && decide (k≤c.vals.length)
def cpC (c:Crk) (k:Int):Crk:=if cpK c k=true then (goP k 4000 c 0).1 else c
def cpN (c:Crk) (k:Int):Int:=if cpK c k=true then (goP k 4000 c 0).2 else 0
theorem cpK_parts {c : Crk} {k : Int} (h : cpK c k = true) : isCrk c = true ∧ 0 ≤ k ∧ k ≤ c.vals.length := by
 simp only [cpK,Bool.and_eq_true,decide_eq_true_eq] at h
 exact⟨h.1.1,h.1.2,h.2⟩
theorem cpC_ok {c : Crk} {k : Int} (h : cpK c k = true) : isCrk (cpC c k) = true ∧ (cpC c k).vals.length = c.vals.length := by
 obtain⟨h1,h2⟩:=cpK_parts h
 rw [cpC,if_pos h]
 exact goP_ok k 4000 c 0 h1 h2
theorem cpC_le {c : Crk} {k : Int} (h : c.vals.length ≤ 1048576 ∧ c.rows.length ≤ 1048576 ∧ c.piv.length ≤ 1048576) : (cpC c k).vals.length ≤ 1048576 ∧ (cpC c k).rows.length ≤ 1048576 ∧ (cpC c k).piv.length ≤ 1048576 := by
 cases hk:cpK c k
 ·rw [cpC,hk];exact h
 have := crk_lens (cpC_ok hk).1
 omega

set_option maxRecDepth 20000 in
set_option maxHeartbeats 2000000 in
theorem c_impl_around (c : Crk) (k : Int) (hc : isCrk c = true) (hk : 0 ≤ k ∧ k ≤ c.vals.length) : EFn Try.prog 132 [.agg (crkC c), .c (.sc (.int .i64 k))] [] (fun r S => r = .tup [(false, [.sc (.int .i64 (posA c k))]), (false, [.sc (.int .i64 (posB c k))])] ∧ S = []) := by
 refine E_fn Try.func132 rfl (Nat.le_of_ble_eq_true rfl) ?_
 refine E_G (n:=0) rfl ?_
 have hl:=crk_lens hc
 refine G_seq ?_
 refine G_region' (L:=[0,1,2]) rfl ?_
 refine x_box rfl rfl rfl rfl rfl ?_
 refine xas ?_
 refine xas ?_
 refine EOps_nil ?_
 refine G_seq ?_
 refine G_drawT mixed ?_
 refine tj_ 0 rfl (l_field rfl fo_27_0) ?_
 refine tl_ 1 rfl (L_load rfl (xb0 ty_24)) ?_
 refine tj_ 2 rfl (l_len rfl sl_24) ?_
 refine tj_ 3 rfl (L_assign rfl) ?_
 refine tj_ 4 rfl (L_assign rfl) ?_
 refine T_done (by kernel_rfl) ?_
 refine G_seq ?_
 refine G_seq ?_
 refine G_region' (L:=[0,1,2]) rfl ?_
 refine xmv ?_
 refine xmv ?_
 refine p_ rfl (L_bin rfl rfl rfl rfl) ?_
 refine EOps_nil ?_
 refine G_cond rfl (fun hc15=>?_) (fun hc15=>?_)
 ·have hz : (if k = c.vals.length then k else 0) = c.vals.length := by
   have:k=c.vals.length:=by simpa [ints_len] using hc15
   rw [if_pos this,this]
  refine G_region' (L:=[0,1]) rfl ?_
  refine xmv ?_
  refine xas ?_
  refine EOps_nil ?_
  refine G_seq ?_
  refine G_seq ?_
  refine G_region' (L:=[0,1,2,3]) rfl ?_
  refine p_ rfl (l_field rfl fo_27_2) ?_
  refine l_ rfl (L_load rfl (xb0 ty_25)) ?_
  refine p_ rfl (l_len rfl sl_25) ?_
  refine xmv ?_
  refine EOps_nil ?_
  refine G_block ?_
  refine g_forD (α:=Nat) [0,1,2,4,5,15,18,19] (fun j=>[(20,.c (.sc (.int .i64 (j)))),(6,.c (.sc (.int .i64 ((posAn c k j))))),(7,.c (.sc (.int .i64 ((posBn c k j)))))]) (fun j=>[.box (crkC c)]) (fun j=>j≤c.piv.length) (fun j=>c.piv.length - j) (0) ?_ (rfl) ⟨.inr rfl,.inr (int_eq (by rw [posAn,List.take_zero,List.foldl_nil,hz]<;>first|rfl|rw [ints_len])),.inr (int_eq (by rw [posBn,List.take_zero,List.foldl_nil,ints_len])),trivial⟩ ?_
  ·simp
  rintro j hj
  refine G_seq ?_
  refine G_region' (L:=[0]) rfl ?_
  refine p_ rfl (L_bin rfl rfl rfl rfl) ?_
  refine EOps_nil ?_
  refine G_seq ?_
  refine G_cond rfl (fun hc21=>?_) (fun hc21=>?_)
  ·have hc21' : j < (c.piv).length := by simpa [ints_len, bools_len, pairs_len, quads_len, quints_len] using hc21
   obtain⟨p,hp⟩:∃ x,(c.piv)[j]? = some x:=⟨_,List.getElem?_eq_getElem hc21'⟩
   have hA:=posAn_step (k:=k) hp
   have hB:=posBn_step (k:=k) hp
   refine G_skip ?_
   refine G_seq ?_
   refine G_block ?_
   refine G_seq ?_
   refine G_region' (L:=[0,1,2,3]) rfl ?_
   refine p_ rfl (L_index rfl rfl (xii sl_25 ty_129)) ?_
   refine l_ rfl (L_load rfl (xb0 ty_129)) ?_
   refine x_alloc rfl rfl rfl rfl za_129 ?_
   refine EOps_go rfl rfl (EOp_store rfl rfl rfl (xb1 ty_129) ?_)
   refine EOps_nil ?_
   refine G_seq ?_
   refine G_region' (L:=[0,1,2,3]) rfl ?_
   refine p_ rfl (l_field rfl fo_129_1) ?_
   refine l_ rfl (L_load rfl (xb0 ty_3)) ?_
   refine xmv ?_
   refine p_ rfl (L_bin rfl rfl rfl rfl) ?_
   refine EOps_nil ?_
   refine G_cond rfl (fun hc27=>?_) (fun hc27=>?_)
   ·have hle : p.2 ≤ k := by simpa using hc27
    have hA1:posAn c k (j+1)=if posAn c k j<p.2 then p.2 else posAn c k j:=by rw [hA,aE,if_pos hle];split<;>omega
    have hB1:posBn c k (j+1)=posBn c k j:=by rw [hB,bE,if_pos hle]
    refine G_region' (L:=[0,1,2,3,4]) rfl ?_
    refine xmv ?_
    refine p_ rfl (l_field rfl fo_129_1) ?_
    refine l_ rfl (L_load rfl (xb0 ty_3)) ?_
    refine p_ rfl (L_max rfl rfl rfl) ?_
    refine xas ?_
    refine EOps_nil ?_
    refine G_region' (L:=[0,1]) rfl ?_
    refine p_ rfl xb2 ?_
    refine xmv ?_
    refine EOps_nil ?_
    refine⟨[0],rfl,j+1,?_,?_,rfl,⟨.inr rfl,.inr (int_eq hA1.symm),.inr (int_eq hB1.symm),trivial⟩,⟨.inr rfl,.inr rfl,.inr rfl,.inr rfl,.inr rfl,.inr rfl,.inr rfl,.inr rfl,trivial⟩⟩
    ·first|omega|(dsimp only;omega)|(simp;omega)
    first|trivial|omega|(dsimp only;omega)|(simp;omega)
   have hle : ¬ p.2 ≤ k := by simpa using hc27
   have hA1:posAn c k (j+1)=posAn c k j:=by rw [hA,aE,if_neg hle]
   have hB1:posBn c k (j+1)=if p.2<posBn c k j then p.2 else posBn c k j:=by rw [hB,bE,if_neg hle];split<;>omega
   refine G_region' (L:=[0,1,2,3,4]) rfl ?_
   refine xmv ?_
   refine p_ rfl (l_field rfl fo_129_1) ?_
   refine l_ rfl (L_load rfl (xb0 ty_3)) ?_
   refine p_ rfl (L_min rfl rfl rfl) ?_
   refine xas ?_
   refine EOps_nil ?_
   refine G_region' (L:=[0,1]) rfl ?_
   refine p_ rfl xb2 ?_
   refine xmv ?_
   refine EOps_nil ?_
   refine⟨[0],rfl,j+1,?_,?_,rfl,⟨.inr rfl,.inr (int_eq hA1.symm),.inr (int_eq hB1.symm),trivial⟩,⟨.inr rfl,.inr rfl,.inr rfl,.inr rfl,.inr rfl,.inr rfl,.inr rfl,.inr rfl,trivial⟩⟩
   ·first|omega|(dsimp only;omega)|(simp;omega)
   first|trivial|omega|(dsimp only;omega)|(simp;omega)
  have hjj : c.piv.length ≤ j := by simpa [pairs_len] using hc21
  rw [posAn_all hjj,posBn_all hjj]
  refine G_exit ?_
  refine G_seq ?_
  refine G_region' (L:=[0,1,2,3]) rfl ?_
  refine xmv ?_
  refine xmv ?_
  refine xas ?_
  refine xas ?_
  refine EOps_nil ?_
  refine G_ret ?_
  exact⟨_,[],rfl,rfl,rfl,rfl⟩
 have hz : (if k = c.vals.length then k else 0) = 0 := by
  have:¬ k=c.vals.length:=by simpa [ints_len] using hc15
  rw [if_neg this]
 refine G_skip ?_
 refine G_seq ?_
 refine G_seq ?_
 refine G_region' (L:=[0,1,2,3]) rfl ?_
 refine p_ rfl (l_field rfl fo_27_2) ?_
 refine l_ rfl (L_load rfl (xb0 ty_25)) ?_
 refine p_ rfl (l_len rfl sl_25) ?_
 refine xmv ?_
 refine EOps_nil ?_
 refine G_block ?_
 refine g_forD (α:=Nat) [0,1,2,4,5,15,18,19] (fun j=>[(20,.c (.sc (.int .i64 (j)))),(6,.c (.sc (.int .i64 ((posAn c k j))))),(7,.c (.sc (.int .i64 ((posBn c k j)))))]) (fun j=>[.box (crkC c)]) (fun j=>j≤c.piv.length) (fun j=>c.piv.length - j) (0) ?_ (rfl) ⟨.inr rfl,.inr (int_eq (by rw [posAn,List.take_zero,List.foldl_nil,hz]<;>first|rfl|rw [ints_len])),.inr (int_eq (by rw [posBn,List.take_zero,List.foldl_nil,ints_len])),trivial⟩ ?_
 ·simp
 rintro j hj
 refine G_seq ?_
 refine G_region' (L:=[0]) rfl ?_
 refine p_ rfl (L_bin rfl rfl rfl rfl) ?_
 refine EOps_nil ?_
 refine G_seq ?_
 refine G_cond rfl (fun hc21=>?_) (fun hc21=>?_)
 ·have hc21' : j < (c.piv).length := by simpa [ints_len, bools_len, pairs_len, quads_len, quints_len] using hc21
  obtain⟨p,hp⟩:∃ x,(c.piv)[j]? = some x:=⟨_,List.getElem?_eq_getElem hc21'⟩
  have hA:=posAn_step (k:=k) hp
  have hB:=posBn_step (k:=k) hp
  refine G_skip ?_
  refine G_seq ?_
  refine G_block ?_
  refine G_seq ?_
  refine G_region' (L:=[0,1,2,3]) rfl ?_
  refine p_ rfl (L_index rfl rfl (xii sl_25 ty_129)) ?_
  refine l_ rfl (L_load rfl (xb0 ty_129)) ?_
  refine x_alloc rfl rfl rfl rfl za_129 ?_
  refine EOps_go rfl rfl (EOp_store rfl rfl rfl (xb1 ty_129) ?_)
  refine EOps_nil ?_
  refine G_seq ?_
  refine G_region' (L:=[0,1,2,3]) rfl ?_
  refine p_ rfl (l_field rfl fo_129_1) ?_
  refine l_ rfl (L_load rfl (xb0 ty_3)) ?_
  refine xmv ?_
  refine p_ rfl (L_bin rfl rfl rfl rfl) ?_
  refine EOps_nil ?_
  refine G_cond rfl (fun hc27=>?_) (fun hc27=>?_)
  ·have hle : p.2 ≤ k := by simpa using hc27
   have hA1:posAn c k (j+1)=if posAn c k j<p.2 then p.2 else posAn c k j:=by rw [hA,aE,if_pos hle];split<;>omega
   have hB1:posBn c k (j+1)=posBn c k j:=by rw [hB,bE,if_pos hle]
   refine G_region' (L:=[0,1,2,3,4]) rfl ?_
   refine xmv ?_
   refine p_ rfl (l_field rfl fo_129_1) ?_
   refine l_ rfl (L_load rfl (xb0 ty_3)) ?_
   refine p_ rfl (L_max rfl rfl rfl) ?_
   refine xas ?_
   refine EOps_nil ?_
   refine G_region' (L:=[0,1]) rfl ?_
   refine p_ rfl xb2 ?_
   refine xmv ?_
   refine EOps_nil ?_
   refine⟨[0],rfl,j+1,?_,?_,rfl,⟨.inr rfl,.inr (int_eq hA1.symm),.inr (int_eq hB1.symm),trivial⟩,⟨.inr rfl,.inr rfl,.inr rfl,.inr rfl,.inr rfl,.inr rfl,.inr rfl,.inr rfl,trivial⟩⟩
   ·first|omega|(dsimp only;omega)|(simp;omega)
   first|trivial|omega|(dsimp only;omega)|(simp;omega)
  have hle : ¬ p.2 ≤ k := by simpa using hc27
  have hA1:posAn c k (j+1)=posAn c k j:=by rw [hA,aE,if_neg hle]
  have hB1:posBn c k (j+1)=if p.2<posBn c k j then p.2 else posBn c k j:=by rw [hB,bE,if_neg hle];split<;>omega
  refine G_region' (L:=[0,1,2,3,4]) rfl ?_
  refine xmv ?_
  refine p_ rfl (l_field rfl fo_129_1) ?_
  refine l_ rfl (L_load rfl (xb0 ty_3)) ?_
  refine p_ rfl (L_min rfl rfl rfl) ?_
  refine xas ?_
  refine EOps_nil ?_
  refine G_region' (L:=[0,1]) rfl ?_
  refine p_ rfl xb2 ?_
  refine xmv ?_
  refine EOps_nil ?_
  refine⟨[0],rfl,j+1,?_,?_,rfl,⟨.inr rfl,.inr (int_eq hA1.symm),.inr (int_eq hB1.symm),trivial⟩,⟨.inr rfl,.inr rfl,.inr rfl,.inr rfl,.inr rfl,.inr rfl,.inr rfl,.inr rfl,trivial⟩⟩
  ·first|omega|(dsimp only;omega)|(simp;omega)
  first|trivial|omega|(dsimp only;omega)|(simp;omega)
 have hjj : c.piv.length ≤ j := by simpa [pairs_len] using hc21
 rw [posAn_all hjj,posBn_all hjj]
 refine G_exit ?_
 refine G_seq ?_
 refine G_region' (L:=[0,1,2,3]) rfl ?_
 refine xmv ?_
 refine xmv ?_
 refine xas ?_
 refine xas ?_
 refine EOps_nil ?_
 refine G_ret ?_
 exact⟨_,[],rfl,rfl,rfl,rfl⟩

set_option maxRecDepth 20000 in
set_option maxHeartbeats 2000000 in
theorem c_spec_l17Same (c : Crk) (a b : Nat) (hab : a < b ∧ b ≤ c.vals.length ∧ c.vals.length ≤ 64) : EFn Try.prog 179 [.agg (crkC c), .c (.sc (.int .i64 (a : Int))), .c (.sc (.int .i64 (b : Int)))] [] (fun r S => r = .c (.sc (.bool (allSame (cutV c.vals a b)))) ∧ S = []) := by
 refine E_fn Try.func179 rfl (Nat.le_of_ble_eq_true rfl) ?_
 obtain⟨y,hy⟩:=at_lt (l:=c.vals) (k:=a) (by omega)
 have hy0:(cutV c.vals a b).getD 0 0=y:=getD_x ((cutV_at (by omega)).trans hy)
 have hlen:=cutV_len (xs:=c.vals) (a:=a) (b:=b) (by omega) (by omega) (by omega)
 refine E_seq ?_
 refine E_region' (L:=[0,1]) rfl ?_
 refine x_box rfl rfl rfl rfl rfl ?_
 refine xas ?_
 refine EOps_nil ?_
 refine E_seq ?_
 refine E_seq ?_
 refine E_region' (L:=[0,1,2]) rfl ?_
 refine xmv ?_
 refine p_ rfl xb2 ?_
 refine xas ?_
 refine EOps_nil ?_
 refine E_block ?_
 refine e_for (α:=Nat) [0,1,2,3] (fun j=>[(7,.c (.sc (.int .i64 (((a:Int)+1+j)))))]) (fun _=>_) (fun j=>a+1+j≤b∧((cutV c.vals a b).take (j+1)).all (fun x=>decide (x=y))=true) (fun j=>b - j) (0) ?_ (rfl) ⟨.inr (int_eq (by simp)),trivial⟩ ?_
 ·refine ⟨by omega, ?_⟩
  rw [take_snoc ((cutV_at (by omega)).trans hy)]
  simp
 rintro j ⟨hj,hall⟩
 refine E_seq ?_
 refine E_seq ?_
 refine E_region' (L:=[0,1,2]) rfl ?_
 refine xmv ?_
 refine xmv ?_
 refine p_ rfl (L_bin rfl rfl rfl rfl) ?_
 refine EOps_nil ?_
 refine E_cond rfl (fun hc12=>?_) (fun hc12=>?_)
 ·have hlt : a + 1 + j < b := by simp at hc12; omega
  obtain⟨x,hx⟩:=at_lt (l:=c.vals) (k:=a+(j+1)) (by omega)
  have hx':c.vals[((a:Int)+1+j).toNat]? = some x:=by rw [← hx];congr 1;omega
  have hxc:(cutV c.vals a b)[j+1]? = some x:=(cutV_at (by omega)).trans hx
  refine E_skip ?_
  refine E_seq ?_
  refine E_block ?_
  refine E_seq ?_
  refine E_drawT mixed ?_
  refine tj_ 0 rfl (l_field rfl fo_27_0) ?_
  refine tl_ 1 rfl (L_load rfl (xb0 ty_24)) ?_
  refine tj_ 2 rfl (L_move rfl) ?_
  refine tj_ 3 rfl (L_index rfl rfl (xii sl_24 ty_3)) ?_
  refine tl_ 4 rfl (L_load rfl (xb0 ty_3)) ?_
  refine tj_ 5 rfl (l_field rfl fo_27_0) ?_
  refine tl_ 6 rfl (L_load rfl (xb0 ty_24)) ?_
  refine tj_ 7 rfl (L_move rfl) ?_
  refine tj_ 8 rfl (L_index rfl rfl (xii sl_24 ty_3)) ?_
  refine tl_ 9 rfl (L_load rfl (xb0 ty_3)) ?_
  refine tj_ 10 rfl (L_bin rfl rfl rfl rfl) ?_
  refine T_done (by kernel_rfl) ?_
  refine E_cond rfl (fun hc25=>?_) (fun hc25=>?_)
  ·have hf : allSame (cutV c.vals a b) = false := by
    have hne:x ≠ y:=by simpa using hc25
    cases h:allSame (cutV c.vals a b)
    ·rfl
    have h1 := List.all_eq_true.1 h x (List.mem_of_getElem? hxc)
    rw [hy0] at h1
    exact absurd (by simpa using h1) hne
   refine E_seq ?_
   refine E_region' (L:=[0]) rfl ?_
   refine xas ?_
   refine EOps_nil ?_
   refine E_ret ?_
   refine⟨_,[],rfl,rfl,?_,rfl⟩
   rw [hf];rfl
  refine E_skip ?_
  refine E_region' (L:=[0,1,2]) rfl ?_
  refine xmv ?_
  refine p_ rfl xb2 ?_
  refine xas ?_
  refine EOps_nil ?_
  refine⟨j+1,?_,?_,rfl,⟨.inr (int_eq (by omega)),trivial⟩,⟨.inr rfl,.inr rfl,.inr rfl,.inr rfl,trivial⟩⟩
  ·first|omega|(dsimp only;omega)|(simp;omega)
  refine ⟨by omega, ?_⟩
  have he:x=y:=by simpa using hc25
  rw [take_snoc hxc,List.all_append,hall]
  simp [he]
 have hf : allSame (cutV c.vals a b) = true := by
  have hge:¬ a+1+j<b:=by simp at hc12;omega
  rw [List.take_of_length_le (by omega)] at hall
  rw [allSame,hy0];exact hall
 refine E_exit ?_
 refine E_seq ?_
 refine E_region' (L:=[0]) rfl ?_
 refine xas ?_
 refine EOps_nil ?_
 refine E_ret ?_
 refine⟨_,[],rfl,rfl,?_,rfl⟩
 rw [hf];rfl

set_option maxRecDepth 20000 in
set_option maxHeartbeats 8000000 in
theorem c_impl_CrackPosition (c : Crk) (k : Int) (hb : c.vals.length ≤ 1048576 ∧ c.rows.length ≤ 1048576 ∧ c.piv.length ≤ 1048576) : EFn Try.prog 55 [.agg (crkC c), .c (.sc (.int .i64 k))] [] (fun r S => r = .tup [(true, crkO 0 (cpC c k)), (false, [.sc (.int .i64 (cpN c k))]), (false, [.sc (.bool (cpK c k))])] ∧ S = crkR 3 129 (cpC c k)) := by
  refine E_fn Try.func55 rfl (Nat.le_of_ble_eq_true rfl) ?_
  refine E_G (n:=0) rfl ?_
  refine G_seq ?_
  refine G_region' (L:=[0,1,2,3]) rfl ?_
  refine x_box rfl rfl rfl rfl rfl ?_
  refine x_alloc rfl rfl rfl rfl za_27 ?_
  refine xas ?_
  refine xas ?_
  refine EOps_nil ?_
  refine G_seq ?_
  refine g_tidy_A37_0 [0,1,2,4,5,6] ?_
  refine G_region' (L:=[0,1,2,3,4]) rfl ?_
  refine l_ rfl (L_load rfl (xb0 ty_27)) ?_
  refine x_call rfl rfl rfl rfl rfl ca_95 (c_impl_copyCracker c hb) ?_
  rintro r S ⟨rfl,rfl⟩
  refine x_alloc rfl rfl rfl rfl za_27 ?_
  refine EOps_go rfl rfl (EOp_store rfl rfl rfl (xb1 ty_27) ?_)
  refine xas ?_
  refine EOps_nil ?_
  refine G_seq ?_
  refine G_seq ?_
  refine g_tidy_A37_0 [0,1,2,4,5,6,7,8] ?_
  refine G_region' (L:=[0,1,2,3,4,5,6,7,8,9,10,11,12,13]) rfl ?_
  refine l_ rfl (L_load rfl (xb0 ty_27)) ?_
  refine x_call rfl rfl rfl rfl rfl ca_28 (c_impl_IsCracker c) ?_
  rintro r S ⟨rfl,rfl⟩
  refine p_ rfl (L_not rfl rfl) ?_
  refine xmv ?_
  refine EOps_split 18 (b:=_) rfl (fun hg18=>?_) (fun hg18=>?_)
  · refine s_ rfl ?_
    refine s_ rfl ?_
    refine p_ rfl (L_pick rfl rfl) ?_
    refine xmv ?_
    refine s_ rfl ?_
    refine s_ rfl ?_
    refine s_ rfl ?_
    refine s_ rfl ?_
    refine s_ rfl ?_
    refine p_ rfl (L_pick rfl rfl) ?_
    refine EOps_nil ?_
    refine G_cond rfl (fun hc28=>?_) (fun hc28=>?_)
    · have hK : cpK c k = false := by
        cases hK:cpK c k
        · rfl
        exfalso
        obtain⟨q1,q2,q3⟩:=cpK_parts hK
        first
          | (rw [q1] at hg18;exact Bool.noConfusion hg18)
          | (simp at hg22;omega)
          | (simp [ints_len] at hc28;omega)
      have hC:cpC c k=c:=by rw [cpC,hK];rfl
      have hN:cpN c k=0:=by rw [cpN,hK];rfl
      refine G_seq ?_
      refine G_region' (L:=[0,1,2,3]) rfl ?_
      refine l_ rfl (L_load rfl (xb0 ty_27)) ?_
      refine EOps_go rfl rfl (EOp_store rfl rfl rfl (xb1 ty_27) ?_)
      refine xas ?_
      refine xas ?_
      refine EOps_nil ?_
      refine G_ret ?_
      rw [hC,hN,hK]
      exact⟨_,[2,3,4],rfl,rfl,rfl,rfl⟩
    exact Bool.noConfusion (hc28:true=false)
  refine xmv ?_
  refine p_ rfl (L_bin rfl rfl rfl rfl) ?_
  refine p_ rfl (L_pick rfl rfl) ?_
  refine xmv ?_
  refine EOps_split 22 (b:=_) rfl (fun hg22=>?_) (fun hg22=>?_)
  · refine s_ rfl ?_
    refine s_ rfl ?_
    refine s_ rfl ?_
    refine s_ rfl ?_
    refine s_ rfl ?_
    refine p_ rfl (L_pick rfl rfl) ?_
    refine EOps_nil ?_
    refine G_cond rfl (fun hc28=>?_) (fun hc28=>?_)
    · have hK : cpK c k = false := by
        cases hK:cpK c k
        · rfl
        exfalso
        obtain⟨q1,q2,q3⟩:=cpK_parts hK
        first
          | (rw [q1] at hg18;exact Bool.noConfusion hg18)
          | (simp at hg22;omega)
          | (simp [ints_len] at hc28;omega)
      have hC:cpC c k=c:=by rw [cpC,hK];rfl
      have hN:cpN c k=0:=by rw [cpN,hK];rfl
      refine G_seq ?_
      refine G_region' (L:=[0,1,2,3]) rfl ?_
      refine l_ rfl (L_load rfl (xb0 ty_27)) ?_
      refine EOps_go rfl rfl (EOp_store rfl rfl rfl (xb1 ty_27) ?_)
      refine xas ?_
      refine xas ?_
      refine EOps_nil ?_
      refine G_ret ?_
      rw [hC,hN,hK]
      exact⟨_,[2,3,4],rfl,rfl,rfl,rfl⟩
    exact Bool.noConfusion (hc28:true=false)
  refine xmv ?_
  refine p_ rfl (l_field rfl fo_27_0) ?_
  refine l_ rfl (L_load rfl (xb0 ty_24)) ?_
  refine p_ rfl (l_len rfl sl_24) ?_
  refine p_ rfl (L_bin rfl rfl rfl rfl) ?_
  refine p_ rfl (L_pick rfl rfl) ?_
  refine EOps_nil ?_
  refine G_cond rfl (fun hc28=>?_) (fun hc28=>?_)
  · have hK : cpK c k = false := by
      cases hK:cpK c k
      · rfl
      exfalso
      obtain⟨q1,q2,q3⟩:=cpK_parts hK
      first
        | (rw [q1] at hg18;exact Bool.noConfusion hg18)
        | (simp at hg22;omega)
        | (simp [ints_len] at hc28;omega)
    have hC:cpC c k=c:=by rw [cpC,hK];rfl
    have hN:cpN c k=0:=by rw [cpN,hK];rfl
    refine G_seq ?_
    refine G_region' (L:=[0,1,2,3]) rfl ?_
    refine l_ rfl (L_load rfl (xb0 ty_27)) ?_
    refine EOps_go rfl rfl (EOp_store rfl rfl rfl (xb1 ty_27) ?_)
    refine xas ?_
    refine xas ?_
    refine EOps_nil ?_
    refine G_ret ?_
    rw [hC,hN,hK]
    exact⟨_,[2,3,4],rfl,rfl,rfl,rfl⟩
  have hcv : isCrk c = true ∧ 0 ≤ k ∧ k ≤ c.vals.length := by
    simp at hg22
    simp [ints_len] at hc28
    exact⟨by simpa using hg18,by omega,by omega⟩
  refine G_skip ?_
  refine G_block ?_
  refine g_forD_A37_1 (α:=Nat × Crk × Int) [0,1,2,4,7,28] (fun (f,cur,rr)=>[(8,.c (.sc (.int .i64 (rr))))]) (fun (f,cur,rr)=>[.box (crkC c),.box [.sc (.slice none 0 0),.sc (.slice none 0 0),.sc (.slice none 0 0)],.row 3 1 (ints cur.vals),.row 3 1 (ints cur.rows),.row 129 2 (pairs cur.piv),.box (crkO 2 cur)]) (fun (f,cur,rr)=>isCrk cur=true∧cur.vals.length=c.vals.length∧goP k f cur rr=goP k 4000 c 0∧2001<f+cur.piv.length∧0≤rr∧rr+f≤4000) (fun (f,cur,rr)=>f) ((4000,c,0)) ?_ (rfl) ⟨.inr rfl,trivial⟩ ?_
  · exact⟨hcv.1,rfl,rfl,by omega,by omega,by omega⟩
  rintro⟨f,cur,rr⟩ ⟨hcur,hvl,hgo,hfu,hr0,hrf⟩
  dsimp only
  have hlc:=crk_lens hcur
  obtain⟨f',rfl⟩:∃ f',f=f'+1:=⟨f - 1,by omega⟩
  have hkk:0≤k∧k≤cur.vals.length:=by rw [hvl];exact hcv.2
  have hpos:=pos_in hcur hkk
  obtain⟨a,ha⟩:∃ a:Nat,posA cur k=a:=⟨_,(Int.toNat_of_nonneg hpos.1).symm⟩
  have hpab:=pos_ab hcur hkk
  obtain⟨b,hbb⟩:∃ b:Nat,posB cur k=b:=⟨_,(Int.toNat_of_nonneg hpab.2).symm⟩
  rw [ha,hbb] at hpos hpab
  have hL:posL cur k=cutV cur.vals a b:=by rw [posL,ha,hbb]
  have hgs:goP k (f'+1) cur rr=if stopP cur k=true then (cur,rr) else goP k f' (stepP cur k) (rr+1):=rfl
  have hab : (a : Int) ≠ k → 0 < (cutV cur.vals a b).length ∧ (cutV cur.vals a b).length ≤ 64 := fun h => by
    have h1:=hpos.2.2.2.1 h
    have h2:=cutV_len (xs:=cur.vals) (a:=a) (b:=b) (by omega) (by omega) (by omega)
    omega
  refine G_block ?_
  refine G_seq ?_
  refine g_tidy_A37_0 [0,1,2,4,5,6,7,8,9,10,11,12,28,50] ?_
  refine G_region' (L:=[0,1,2,3,4,5,6,7]) rfl ?_
  refine l_ rfl (L_load rfl (xb0 ty_27)) ?_
  refine xmv ?_
  refine x_call rfl rfl rfl rfl rfl ca_132 (c_impl_around cur k hcur hkk) ?_
  rintro r S ⟨rfl,rfl⟩
  rw [ha,hbb]
  refine xmv ?_
  refine p_ rfl (L_extract rfl rfl) ?_
  refine p_ rfl (L_extract rfl rfl) ?_
  refine xas ?_
  refine xas ?_
  refine EOps_nil ?_
  refine G_seq ?_
  refine G_region' (L:=[0,1,2,3,4,5]) rfl ?_
  refine p_ rfl (l_field rfl fo_27_0) ?_
  refine l_ rfl (L_load rfl (xb0 ty_24)) ?_
  refine xmv ?_
  refine xmv ?_
  refine p_ rfl (by first|exact L_slice_ro (l:=a) (h:=b) rfl sl_24 ty_3 rfl rfl rfl (by first|omega|(simp [ints_len,pairs_len,quads_len,quints_len,bools_len];omega)|(simp [ints_len,pairs_len,quads_len,quints_len,bools_len] at *;omega)) (by first|omega|(simp [ints_len,pairs_len,quads_len,quints_len,bools_len];omega)|(simp [ints_len,pairs_len,quads_len,quints_len,bools_len] at *;omega)) (by first|exact fun r hr=>(ints_row _ r hr).1|exact fun r hr=>(pairs_row _ r hr).1|exact fun r hr=>(quads_row _ r hr).1|exact fun r hr=>(quints_row _ r hr).1|exact fun r hr=>(bools_row _ r hr).1)|exact L_slice_sl (l:=a) (h:=b) rfl sl_24 ty_3 rfl (by first|rfl|assumption) (by first|assumption|exact ints_len _|exact pairs_len _|exact quads_len _|exact quints_len _|exact bools_len _|(simp [ints_len,bools_len,pairs_len,quads_len,quints_len,part_len, *];done)|(simp [ints_len,bools_len,pairs_len,quads_len,quints_len];omega)|rfl) rfl rfl (by first|omega|(simp [ints_len,pairs_len,quads_len,quints_len,bools_len];omega)|(simp [ints_len,pairs_len,quads_len,quints_len,bools_len] at *;omega)) (by first|omega|(simp [ints_len,pairs_len,quads_len,quints_len,bools_len];omega)|(simp [ints_len,pairs_len,quads_len,quints_len,bools_len] at *;omega))) ?_
  refine xas ?_
  refine EOps_nil ?_
  refine G_seq ?_
  refine G_seq ?_
  refine g_tidy_A37_0 [0,1,2,4,5,6,7,8,9,10,11,12,28,50] ?_
  refine G_region' (L:=[0,1,2,3,4,5,6,7,8,9]) rfl ?_
  refine xmv ?_
  refine xmv ?_
  refine p_ rfl (L_bin rfl rfl rfl rfl) ?_
  refine xmv ?_
  refine EOps_split 44 (b:=_) rfl (fun hg44=>?_) (fun hg44=>?_)
  · refine s_ rfl ?_
    refine s_ rfl ?_
    refine s_ rfl ?_
    refine s_ rfl ?_
    refine s_ rfl ?_
    refine p_ rfl (L_pick rfl rfl) ?_
    refine EOps_nil ?_
    refine G_cond rfl (fun hc50=>?_) (fun hc50=>?_)
    · have hst : stopP cur k = true := by
        rw [stopP,hL,ha]
        first
          | (have h1 : (a : Int) = k := by simpa using hg44
             simp [h1];done)
          | (rw [same_minmax hcl0.1]
             have h1:minL (cutV cur.vals a b)=maxL (cutV cur.vals a b):=by simpa using hc50
             simp [h1])
      rw [if_pos hst] at hgs
      have hres:goP k 4000 c 0=(cur,rr):=hgo.symm.trans hgs
      have hK:cpK c k=true:=by simp [cpK,hcv]
      have hC:cpC c k=cur:=by rw [cpC,if_pos hK,hres]
      have hN:cpN c k=rr:=by rw [cpN,if_pos hK,hres]
      refine G_seq ?_
      refine G_region' (L:=[0,1,2,3,4]) rfl ?_
      refine l_ rfl (L_load rfl (xb0 ty_27)) ?_
      refine xmv ?_
      refine EOps_go rfl rfl (EOp_store rfl rfl rfl (xb1 ty_27) ?_)
      refine xas ?_
      refine xas ?_
      refine EOps_nil ?_
      refine G_ret ?_
      rw [hC,hN,hK]
      exact⟨_,[2,3,4],rfl,rfl,rfl,rfl⟩
    exact Bool.noConfusion (hc50:true=false)
  have hne : (a : Int) ≠ k := by simpa using hg44
  have hcl0:=hab hne
  refine xmv ?_
  refine x_call rfl rfl rfl rfl rfl ca_133 (c_slices_Min___int_int_ (cutV cur.vals a b) ⟨hcl0.1,by omega⟩) ?_ (ha:=by exact cons_eq (lend_cutJ rfl rfl) rfl)
  rintro r S ⟨rfl,rfl⟩
  refine xmv ?_
  refine x_call rfl rfl rfl rfl rfl ca_134 (c_slices_Max___int_int_ (cutV cur.vals a b) ⟨hcl0.1,by omega⟩) ?_ (ha:=by exact cons_eq (lend_cutJ rfl rfl) rfl)
  rintro r S ⟨rfl,rfl⟩
  refine p_ rfl (L_bin rfl rfl rfl rfl) ?_
  refine p_ rfl (L_pick rfl rfl) ?_
  refine EOps_nil ?_
  refine G_cond rfl (fun hc50=>?_) (fun hc50=>?_)
  · have hst : stopP cur k = true := by
      rw [stopP,hL,ha]
      first
        | (have h1 : (a : Int) = k := by simpa using hg44
           simp [h1];done)
        | (rw [same_minmax hcl0.1]
           have h1:minL (cutV cur.vals a b)=maxL (cutV cur.vals a b):=by simpa using hc50
           simp [h1])
    rw [if_pos hst] at hgs
    have hres:goP k 4000 c 0=(cur,rr):=hgo.symm.trans hgs
    have hK:cpK c k=true:=by simp [cpK,hcv]
    have hC:cpC c k=cur:=by rw [cpC,if_pos hK,hres]
    have hN:cpN c k=rr:=by rw [cpN,if_pos hK,hres]
    refine G_seq ?_
    refine G_region' (L:=[0,1,2,3,4]) rfl ?_
    refine l_ rfl (L_load rfl (xb0 ty_27)) ?_
    refine xmv ?_
    refine EOps_go rfl rfl (EOp_store rfl rfl rfl (xb1 ty_27) ?_)
    refine xas ?_
    refine xas ?_
    refine EOps_nil ?_
    refine G_ret ?_
    rw [hC,hN,hK]
    exact⟨_,[2,3,4],rfl,rfl,rfl,rfl⟩
  have hst : stopP cur k = false := by
    rw [stopP,hL,ha,same_minmax hcl0.1]
    have h1:¬ minL (cutV cur.vals a b)=maxL (cutV cur.vals a b):=by simpa using hc50
    simp [h1,hne]
  have hok:=step_ok hcur hkk hst
  have hsp:stepP cur k=(crackC (crackC cur (medI (cutV cur.vals a b))).1 (medI (cutV cur.vals a b)+1)).1:=by rw [stepP,hL]
  rw [if_neg (by simp [hst])] at hgs
  rw [hL] at hok
  have hne : (a : Int) ≠ k := by
    intro e
    rw [stopP,ha,e] at hst
    simp at hst
  have hcl:=hab hne
  refine G_skip ?_
  refine G_seq ?_
  refine g_tidy_A37_0 [0,1,2,4,5,6,7,8,9,10,11,12,28,50] ?_
  refine G_region' (L:=[0,1,2]) rfl ?_
  refine xmv ?_
  refine x_call rfl rfl rfl rfl rfl ca_135 (c_impl_MedianOf (cutV cur.vals a b) hcl.1 hcl.2) ?_ (ha:=by exact cons_eq (lend_cutJ rfl rfl) rfl)
  rintro r S ⟨rfl,rfl⟩
  generalize medI (cutV cur.vals a b)=md at *
  obtain⟨bm,bm1,k1,k2,k3,k4⟩:=hok
  have hmb:-1000≤md∧md≤1000:=by simpa [bnd,isIn] using bm
  refine xas ?_
  refine EOps_nil ?_
  refine G_seq ?_
  refine g_tidy_A37_0 [0,1,2,4,5,6,7,8,9,10,11,12,28,50] ?_
  refine G_region' (L:=[0,1,2,3,4,5,6]) rfl ?_
  refine l_ rfl (L_load rfl (xb0 ty_27)) ?_
  refine xmv ?_
  refine x_call rfl rfl rfl rfl rfl ca_96 (c_impl_crack cur md hcur bm) ?_ (hq:=by rintro r S ⟨rfl,rfl⟩;exact⟨rfl,rfl⟩)
  rintro r S ⟨rfl,rfl⟩
  rw [crkT]
  generalize crackC cur md=P at *
  obtain⟨c1,s1⟩:=P
  dsimp only at hsp k1
  refine xmv ?_
  refine p_ rfl (L_extract rfl rfl) ?_
  refine p_ rfl (L_extract rfl rfl) ?_
  refine EOps_go rfl rfl (EOp_store rfl rfl rfl (xb1 ty_27) ?_)
  refine EOps_nil ?_
  refine G_seq ?_
  refine g_tidy_A37_0 [0,1,2,4,5,6,7,8,9,10,11,12,28,50] ?_
  refine G_region' (L:=[0,1,2,3,4,5,6,7]) rfl ?_
  refine l_ rfl (L_load rfl (xb0 ty_27)) ?_
  refine xmv ?_
  refine p_ rfl xb2 ?_
  refine x_call rfl rfl rfl rfl rfl ca_96 (c_impl_crack c1 (md+1) k1 bm1) ?_ (hq:=by rintro r S ⟨rfl,rfl⟩;exact⟨rfl,rfl⟩)
  rintro r S ⟨rfl,rfl⟩
  rw [crkT]
  generalize crackC c1 (md+1)=P at *
  obtain⟨c2,s2⟩:=P
  dsimp only at hsp
  rw [hsp] at hgs k2 k3 k4
  refine xmv ?_
  refine p_ rfl (L_extract rfl rfl) ?_
  refine p_ rfl (L_extract rfl rfl) ?_
  refine EOps_go rfl rfl (EOp_store rfl rfl rfl (xb1 ty_27) ?_)
  refine EOps_nil ?_
  refine G_region' (L:=[0,1,2]) rfl ?_
  refine xmv ?_
  refine p_ rfl xb2 ?_
  refine xas ?_
  refine EOps_nil ?_
  refine⟨[0,1,10,11,12,5],rfl,(f',c2,rr+1),?_,?_,rfl,⟨.inr (int_eq (by dsimp only)),trivial⟩,⟨.inr rfl,.inr rfl,.inr rfl,.inr rfl,.inr rfl,.inr rfl,trivial⟩⟩
  · first|omega|(dsimp only;omega)|(simp;omega)
  exact⟨k2,k3.trans hvl,hgs.symm.trans hgo,by dsimp only;omega,by dsimp only;omega,by dsimp only;omega⟩

set_option maxRecDepth 20000 in
set_option maxHeartbeats 8000000 in
theorem c_spec_CrackPosition (c : Crk) (k : Int) (hb : c.vals.length ≤ 1048576 ∧ c.rows.length ≤ 1048576 ∧ c.piv.length ≤ 1048576) : EFn Try.prog 131 [.agg (crkC c), .c (.sc (.int .i64 k))] [] (fun r S => r = .tup [(true, crkO 0 (cpC c k)), (false, [.sc (.int .i64 (cpN c k))]), (false, [.sc (.bool (cpK c k))])] ∧ S = crkR 3 129 (cpC c k)) := by
  refine E_fn Try.func131 rfl (Nat.le_of_ble_eq_true rfl) ?_
  refine E_G (n:=0) rfl ?_
  refine G_seq ?_
  refine G_region' (L:=[0,1,2,3]) rfl ?_
  refine x_box rfl rfl rfl rfl rfl ?_
  refine x_alloc rfl rfl rfl rfl za_27 ?_
  refine xas ?_
  refine xas ?_
  refine EOps_nil ?_
  refine G_seq ?_
  refine g_tidy_A37_0 [0,1,2,4,5,6] ?_
  refine G_region' (L:=[0,1,2,3]) rfl ?_
  refine l_ rfl (L_load rfl (xb0 ty_27)) ?_
  refine x_call rfl rfl rfl rfl rfl ca_84 (c_spec_l4Copy c hb) ?_
  rintro r S ⟨rfl,rfl⟩
  refine x_alloc rfl rfl rfl rfl za_27 ?_
  refine EOps_go rfl rfl (EOp_store rfl rfl rfl (xb1 ty_27) ?_)
  refine EOps_nil ?_
  refine G_seq ?_
  refine G_seq ?_
  refine g_tidy_A37_0 [0,1,2,4,5,6,7] ?_
  refine G_region' (L:=[0,1,2,3,4,5,6,7,8,9,10]) rfl ?_
  refine l_ rfl (L_load rfl (xb0 ty_27)) ?_
  refine x_call rfl rfl rfl rfl rfl ca_21 (c_spec_IsCracker c) ?_
  rintro r S ⟨rfl,rfl⟩
  refine p_ rfl (L_not rfl rfl) ?_
  refine xmv ?_
  refine EOps_split 25 (b:=_) rfl (fun hg25=>?_) (fun hg25=>?_)
  · refine s_ rfl ?_
    refine s_ rfl ?_
    refine s_ rfl ?_
    refine s_ rfl ?_
    refine s_ rfl ?_
    refine s_ rfl ?_
    refine p_ rfl (L_pick rfl rfl) ?_
    refine EOps_nil ?_
    refine G_cond rfl (fun hc32=>?_) (fun hc32=>?_)
    · have hK : cpK c k = false := by
        cases hK:cpK c k
        · rfl
        exfalso
        obtain⟨q1,q2,q3⟩:=cpK_parts hK
        first
          | (rw [q1] at hg25;exact Bool.noConfusion hg25)
          | (simp [isIn,ints_len] at hc32;omega)
      have hC:cpC c k=c:=by rw [cpC,hK];rfl
      have hN:cpN c k=0:=by rw [cpN,hK];rfl
      refine G_seq ?_
      refine G_region' (L:=[0,1,2,3]) rfl ?_
      refine l_ rfl (L_load rfl (xb0 ty_27)) ?_
      refine EOps_go rfl rfl (EOp_store rfl rfl rfl (xb1 ty_27) ?_)
      refine xas ?_
      refine xas ?_
      refine EOps_nil ?_
      refine G_ret ?_
      rw [hC,hN,hK]
      exact⟨_,[2,3,4],rfl,rfl,rfl,rfl⟩
    exact Bool.noConfusion (hc32:true=false)
  refine xmv ?_
  refine p_ rfl (l_field rfl fo_27_0) ?_
  refine l_ rfl (L_load rfl (xb0 ty_24)) ?_
  refine p_ rfl (l_len rfl sl_24) ?_
  refine x_call rfl rfl rfl rfl rfl ca_81 (c_spec_l1In k 0 _) ?_
  rintro r S ⟨rfl,rfl⟩
  refine p_ rfl (L_not rfl rfl) ?_
  refine p_ rfl (L_pick rfl rfl) ?_
  refine EOps_nil ?_
  refine G_cond rfl (fun hc32=>?_) (fun hc32=>?_)
  · have hK : cpK c k = false := by
      cases hK:cpK c k
      · rfl
      exfalso
      obtain⟨q1,q2,q3⟩:=cpK_parts hK
      first
        | (rw [q1] at hg25;exact Bool.noConfusion hg25)
        | (simp [isIn,ints_len] at hc32;omega)
    have hC:cpC c k=c:=by rw [cpC,hK];rfl
    have hN:cpN c k=0:=by rw [cpN,hK];rfl
    refine G_seq ?_
    refine G_region' (L:=[0,1,2,3]) rfl ?_
    refine l_ rfl (L_load rfl (xb0 ty_27)) ?_
    refine EOps_go rfl rfl (EOp_store rfl rfl rfl (xb1 ty_27) ?_)
    refine xas ?_
    refine xas ?_
    refine EOps_nil ?_
    refine G_ret ?_
    rw [hC,hN,hK]
    exact⟨_,[2,3,4],rfl,rfl,rfl,rfl⟩
  have hcv : isCrk c = true ∧ 0 ≤ k ∧ k ≤ c.vals.length := by
    simp [isIn,ints_len] at hc32
    exact⟨by simpa using hg25,by omega,by omega⟩
  refine G_skip ?_
  refine G_seq ?_
  refine G_region' (L:=[0]) rfl ?_
  refine xas ?_
  refine EOps_nil ?_
  refine G_block ?_
  refine g_forD_A37_1 (α:=Nat × Crk × Int) [0,1,2,4,7,32] (fun (f,cur,rr)=>[(8,.c (.sc (.int .i64 (rr))))]) (fun (f,cur,rr)=>[.box (crkC c),.box [.sc (.slice none 0 0),.sc (.slice none 0 0),.sc (.slice none 0 0)],.row 3 1 (ints cur.vals),.row 3 1 (ints cur.rows),.row 129 2 (pairs cur.piv),.box (crkO 2 cur)]) (fun (f,cur,rr)=>isCrk cur=true∧cur.vals.length=c.vals.length∧goP k f cur rr=goP k 4000 c 0∧2001<f+cur.piv.length∧0≤rr∧rr+f≤4000) (fun (f,cur,rr)=>f) ((4000,c,0)) ?_ (rfl) ⟨.inr rfl,trivial⟩ ?_
  · exact⟨hcv.1,rfl,rfl,by omega,by omega,by omega⟩
  rintro⟨f,cur,rr⟩ ⟨hcur,hvl,hgo,hfu,hr0,hrf⟩
  dsimp only
  have hlc:=crk_lens hcur
  obtain⟨f',rfl⟩:∃ f',f=f'+1:=⟨f - 1,by omega⟩
  have hkk:0≤k∧k≤cur.vals.length:=by rw [hvl];exact hcv.2
  have hpos:=pos_in hcur hkk
  obtain⟨a,ha⟩:∃ a:Nat,posA cur k=a:=⟨_,(Int.toNat_of_nonneg hpos.1).symm⟩
  have hpab:=pos_ab hcur hkk
  obtain⟨b,hbb⟩:∃ b:Nat,posB cur k=b:=⟨_,(Int.toNat_of_nonneg hpab.2).symm⟩
  rw [ha,hbb] at hpos hpab
  have hL:posL cur k=cutV cur.vals a b:=by rw [posL,ha,hbb]
  have hgs:goP k (f'+1) cur rr=if stopP cur k=true then (cur,rr) else goP k f' (stepP cur k) (rr+1):=rfl
  have hab : (a : Int) ≠ k → 0 < (cutV cur.vals a b).length ∧ (cutV cur.vals a b).length ≤ 64 := fun h => by
    have h1:=hpos.2.2.2.1 h
    have h2:=cutV_len (xs:=cur.vals) (a:=a) (b:=b) (by omega) (by omega) (by omega)
    omega
  refine G_block ?_
  refine G_seq ?_
  refine G_region' (L:=[0]) rfl ?_
  refine xas ?_
  refine EOps_nil ?_
  refine G_seq ?_
  refine G_region' (L:=[0,1,2,3]) rfl ?_
  refine p_ rfl (l_field rfl fo_27_0) ?_
  refine l_ rfl (L_load rfl (xb0 ty_24)) ?_
  refine p_ rfl (l_len rfl sl_24) ?_
  refine xas ?_
  refine EOps_nil ?_
  refine G_seq ?_
  refine g_tidy_A37_0 [0,1,2,4,5,6,7,8,9,10,11,12,13,14,17,32,42,50,71] ?_
  refine G_region' (L:=[0,1,2]) rfl ?_
  refine l_ rfl (L_load rfl (xb0 ty_27)) ?_
  refine x_call rfl rfl rfl rfl rfl ca_178 (c_spec_l4Ends cur (by omega)) ?_
  rintro r S ⟨rfl,rfl⟩
  refine xas ?_
  refine EOps_nil ?_
  refine G_seq ?_
  refine G_seq ?_
  refine G_region' (L:=[0]) rfl ?_
  refine xas ?_
  refine EOps_nil ?_
  refine G_block ?_
  refine g_forD_A37_1 (α:=Nat) [0,1,2,4,5,6,7,8,11,13,14,17,32,71] (fun j=>[(12,.c (.sc (.int .i64 (j)))),(9,.c (.sc (.int .i64 ((endAn cur k j))))),(10,.c (.sc (.int .i64 ((endBn cur k j)))))]) (fun j=>[.box (crkC c),.box [.sc (.slice none 0 0),.sc (.slice none 0 0),.sc (.slice none 0 0)],.row 3 1 (ints cur.vals),.row 3 1 (ints cur.rows),.row 129 2 (pairs cur.piv),.box (crkO 2 cur),.row 3 1 (ints (endsL cur))]) (fun j=>j≤cur.piv.length+1) (fun j=>cur.piv.length+1 - j) (0) ?_ (rfl) ⟨.inr rfl,.inr rfl,.inr (int_eq (by rw [endBn,List.take_zero,List.foldl_nil]<;>first|rfl|rw [ints_len])),trivial⟩ ?_
  · simp
  rintro j hj
  have hel:(ints (endsL cur)).length=cur.piv.length+1:=by rw [ints_len,endsL_len]
  refine G_seq ?_
  refine G_seq ?_
  refine G_region' (L:=[0,1,2,3]) rfl ?_
  refine xmv ?_
  refine xmv ?_
  refine p_ rfl (l_len rfl sl_24) ?_
  refine p_ rfl (L_bin rfl rfl rfl rfl) ?_
  refine EOps_nil ?_
  refine G_cond rfl (fun hc42=>?_) (fun hc42=>?_)
  · have hj1 : j < (endsL cur).length := by rw [endsL_len]; simp at hc42; omega
    obtain⟨e,hx⟩:=at_lt hj1
    rw [endsL_len] at hj1
    have hA:=endAn_step (k:=k) hx
    have hB:=endBn_step (k:=k) hx
    refine G_skip ?_
    refine G_seq ?_
    refine G_block ?_
    refine G_seq ?_
    refine G_region' (L:=[0,1,2,3,4,5]) rfl ?_
    refine xmv ?_
    refine xmv ?_
    refine p_ rfl (L_index rfl rfl (xii sl_24 ty_3)) ?_
    refine l_ rfl (L_load rfl (xb0 ty_3)) ?_
    refine xmv ?_
    refine p_ rfl (L_bin rfl rfl rfl rfl) ?_
    refine EOps_nil ?_
    refine G_cond rfl (fun hc50=>?_) (fun hc50=>?_)
    · have hle : e ≤ k := by simpa using hc50
      have hA1:endAn cur k (j+1)=if endAn cur k j<e then e else endAn cur k j:=by rw [hA,aE,if_pos hle];split<;>omega
      have hB1:endBn cur k (j+1)=endBn cur k j:=by rw [hB,bE,if_pos hle]
      refine G_region' (L:=[0,1,2,3,4,5,6]) rfl ?_
      refine xmv ?_
      refine xmv ?_
      refine xmv ?_
      refine p_ rfl (L_index rfl rfl (xii sl_24 ty_3)) ?_
      refine l_ rfl (L_load rfl (xb0 ty_3)) ?_
      refine p_ rfl (L_max rfl rfl rfl) ?_
      refine xas ?_
      refine EOps_nil ?_
      refine G_region' (L:=[0,1,2]) rfl ?_
      refine xmv ?_
      refine p_ rfl xb2 ?_
      refine xas ?_
      refine EOps_nil ?_
      refine⟨[0,1,2,3,4,5,6],rfl,j+1,?_,?_,rfl,⟨.inr rfl,.inr (int_eq hA1.symm),.inr (int_eq hB1.symm),trivial⟩,⟨.inr rfl,.inr rfl,.inr rfl,.inr rfl,.inr rfl,.inr rfl,.inr rfl,.inr rfl,.inr rfl,.inr rfl,.inr rfl,.inr rfl,.inr rfl,.inr rfl,trivial⟩⟩
      · first|omega|(dsimp only;omega)|(simp;omega)
      first|trivial|omega|(dsimp only;omega)|(simp;omega)
    have hle : ¬ e ≤ k := by simpa using hc50
    have hA1:endAn cur k (j+1)=endAn cur k j:=by rw [hA,aE,if_neg hle]
    have hB1:endBn cur k (j+1)=if e<endBn cur k j then e else endBn cur k j:=by rw [hB,bE,if_neg hle];split<;>omega
    refine G_region' (L:=[0,1,2,3,4,5,6]) rfl ?_
    refine xmv ?_
    refine xmv ?_
    refine xmv ?_
    refine p_ rfl (L_index rfl rfl (xii sl_24 ty_3)) ?_
    refine l_ rfl (L_load rfl (xb0 ty_3)) ?_
    refine p_ rfl (L_min rfl rfl rfl) ?_
    refine xas ?_
    refine EOps_nil ?_
    refine G_region' (L:=[0,1,2]) rfl ?_
    refine xmv ?_
    refine p_ rfl xb2 ?_
    refine xas ?_
    refine EOps_nil ?_
    refine⟨[0,1,2,3,4,5,6],rfl,j+1,?_,?_,rfl,⟨.inr rfl,.inr (int_eq hA1.symm),.inr (int_eq hB1.symm),trivial⟩,⟨.inr rfl,.inr rfl,.inr rfl,.inr rfl,.inr rfl,.inr rfl,.inr rfl,.inr rfl,.inr rfl,.inr rfl,.inr rfl,.inr rfl,.inr rfl,.inr rfl,trivial⟩⟩
    · first|omega|(dsimp only;omega)|(simp;omega)
    first|trivial|omega|(dsimp only;omega)|(simp;omega)
  have hjj : cur.piv.length + 1 ≤ j := by simp at hc42; omega
  rw [endAn_all hcur hkk hjj,endBn_all hjj,ha,hbb]
  refine G_exit ?_
  refine G_seq ?_
  refine G_seq ?_
  refine g_tidy_A37_0 [0,1,2,4,5,6,7,8,9,10,11,12,13,14,17,32,42,50,71] ?_
  refine G_region' (L:=[0,1,2,3,4,5,6,7,8]) rfl ?_
  refine xmv ?_
  refine xmv ?_
  refine p_ rfl (L_bin rfl rfl rfl rfl) ?_
  refine xmv ?_
  refine EOps_split 66 (b:=_) rfl (fun hg66=>?_) (fun hg66=>?_)
  · refine s_ rfl ?_
    refine s_ rfl ?_
    refine s_ rfl ?_
    refine s_ rfl ?_
    refine p_ rfl (L_pick rfl rfl) ?_
    refine EOps_nil ?_
    refine G_cond rfl (fun hc71=>?_) (fun hc71=>?_)
    · have hst : stopP cur k = true := by
        rw [stopP,hL,ha]
        first
          | (have h1 : (a : Int) = k := by simpa using hg66
             simp [h1];done)
          | (have h1 : allSame (cutV cur.vals a b) = true := hc71
             simp [h1])
      rw [if_pos hst] at hgs
      have hres:goP k 4000 c 0=(cur,rr):=hgo.symm.trans hgs
      have hK:cpK c k=true:=by simp [cpK,hcv]
      have hC:cpC c k=cur:=by rw [cpC,if_pos hK,hres]
      have hN:cpN c k=rr:=by rw [cpN,if_pos hK,hres]
      refine G_seq ?_
      refine G_region' (L:=[0,1,2,3,4]) rfl ?_
      refine l_ rfl (L_load rfl (xb0 ty_27)) ?_
      refine xmv ?_
      refine EOps_go rfl rfl (EOp_store rfl rfl rfl (xb1 ty_27) ?_)
      refine xas ?_
      refine xas ?_
      refine EOps_nil ?_
      refine G_ret ?_
      rw [hC,hN,hK]
      exact⟨_,[2,3,4],rfl,rfl,rfl,rfl⟩
    exact Bool.noConfusion (hc71:true=false)
  have hne : (a : Int) ≠ k := by simpa using hg66
  have hcl0:=hab hne
  have hk1:=hpos.2.2.2.1 hne
  refine l_ rfl (L_load rfl (xb0 ty_27)) ?_
  refine xmv ?_
  refine xmv ?_
  refine x_call rfl rfl rfl rfl rfl ca_179 (c_spec_l17Same cur a b ⟨by omega,by omega,by omega⟩) ?_
  rintro r S ⟨rfl,rfl⟩
  refine p_ rfl (L_pick rfl rfl) ?_
  refine EOps_nil ?_
  refine G_cond rfl (fun hc71=>?_) (fun hc71=>?_)
  · have hst : stopP cur k = true := by
      rw [stopP,hL,ha]
      first
        | (have h1 : (a : Int) = k := by simpa using hg66
           simp [h1];done)
        | (have h1 : allSame (cutV cur.vals a b) = true := hc71
           simp [h1])
    rw [if_pos hst] at hgs
    have hres:goP k 4000 c 0=(cur,rr):=hgo.symm.trans hgs
    have hK:cpK c k=true:=by simp [cpK,hcv]
    have hC:cpC c k=cur:=by rw [cpC,if_pos hK,hres]
    have hN:cpN c k=rr:=by rw [cpN,if_pos hK,hres]
    refine G_seq ?_
    refine G_region' (L:=[0,1,2,3,4]) rfl ?_
    refine l_ rfl (L_load rfl (xb0 ty_27)) ?_
    refine xmv ?_
    refine EOps_go rfl rfl (EOp_store rfl rfl rfl (xb1 ty_27) ?_)
    refine xas ?_
    refine xas ?_
    refine EOps_nil ?_
    refine G_ret ?_
    rw [hC,hN,hK]
    exact⟨_,[2,3,4],rfl,rfl,rfl,rfl⟩
  have hst : stopP cur k = false := by
    rw [stopP,hL,ha]
    have h1:allSame (cutV cur.vals a b)=false:=hc71
    simp [h1,hne]
  have hok:=step_ok hcur hkk hst
  have hsp:stepP cur k=(crackC (crackC cur (medI (cutV cur.vals a b))).1 (medI (cutV cur.vals a b)+1)).1:=by rw [stepP,hL]
  rw [if_neg (by simp [hst])] at hgs
  rw [hL] at hok
  have hne : (a : Int) ≠ k := by
    intro e
    rw [stopP,ha,e] at hst
    simp at hst
  have hcl:=hab hne
  refine G_skip ?_
  refine G_seq ?_
  refine g_tidy_A37_0 [0,1,2,4,5,6,7,8,9,10,11,12,13,14,17,32,42,50,71] ?_
  refine G_region' (L:=[0,1,2,3,4,5,6]) rfl ?_
  refine p_ rfl (l_field rfl fo_27_0) ?_
  refine l_ rfl (L_load rfl (xb0 ty_24)) ?_
  refine xmv ?_
  refine xmv ?_
  refine p_ rfl (by first|exact L_slice_ro (l:=a) (h:=b) rfl sl_24 ty_3 rfl rfl rfl (by first|omega|(simp [ints_len,pairs_len,quads_len,quints_len,bools_len];omega)|(simp [ints_len,pairs_len,quads_len,quints_len,bools_len] at *;omega)) (by first|omega|(simp [ints_len,pairs_len,quads_len,quints_len,bools_len];omega)|(simp [ints_len,pairs_len,quads_len,quints_len,bools_len] at *;omega)) (by first|exact fun r hr=>(ints_row _ r hr).1|exact fun r hr=>(pairs_row _ r hr).1|exact fun r hr=>(quads_row _ r hr).1|exact fun r hr=>(quints_row _ r hr).1|exact fun r hr=>(bools_row _ r hr).1)|exact L_slice_sl (l:=a) (h:=b) rfl sl_24 ty_3 rfl (by first|rfl|assumption) (by first|assumption|exact ints_len _|exact pairs_len _|exact quads_len _|exact quints_len _|exact bools_len _|(simp [ints_len,bools_len,pairs_len,quads_len,quints_len,part_len, *];done)|(simp [ints_len,bools_len,pairs_len,quads_len,quints_len];omega)|rfl) rfl rfl (by first|omega|(simp [ints_len,pairs_len,quads_len,quints_len,bools_len];omega)|(simp [ints_len,pairs_len,quads_len,quints_len,bools_len] at *;omega)) (by first|omega|(simp [ints_len,pairs_len,quads_len,quints_len,bools_len];omega)|(simp [ints_len,pairs_len,quads_len,quints_len,bools_len] at *;omega))) ?_
  refine x_call rfl rfl rfl rfl rfl ca_180 (c_spec_MedianOf (cutV cur.vals a b) hcl.1 hcl.2) ?_ (ha:=by exact cons_eq (lend_cutI rfl rfl) rfl)
  rintro r S ⟨rfl,rfl⟩
  generalize medI (cutV cur.vals a b)=md at *
  obtain⟨bm,bm1,k1,k2,k3,k4⟩:=hok
  have hmb:-1000≤md∧md≤1000:=by simpa [bnd,isIn] using bm
  refine xas ?_
  refine EOps_nil ?_
  refine G_seq ?_
  refine g_tidy_A37_0 [0,1,2,4,5,6,7,8,9,10,11,12,13,14,17,32,42,50,71] ?_
  refine G_region' (L:=[0,1,2,3,4,5,6,7,8,9,10]) rfl ?_
  refine l_ rfl (L_load rfl (xb0 ty_27)) ?_
  refine xmv ?_
  refine x_call rfl rfl rfl rfl rfl ca_15 (c_spec_CrackAt_ok cur md hcur bm) ?_
  rintro r S ⟨rfl,rfl⟩
  generalize crackC cur md=P at *
  obtain⟨c1,s1⟩:=P
  dsimp only at hsp k1
  refine xmv ?_
  refine p_ rfl (L_extract rfl rfl) ?_
  refine p_ rfl (L_extract rfl rfl) ?_
  refine p_ rfl (L_extract rfl rfl) ?_
  refine x_alloc rfl rfl rfl rfl za_27 ?_
  refine EOps_go rfl rfl (EOp_store rfl rfl rfl (xb1 ty_27) ?_)
  refine xas ?_
  refine xas ?_
  refine EOps_nil ?_
  refine G_seq ?_
  refine g_tidy_A37_0 [0,1,2,4,5,6,7,8,9,10,11,12,13,14,17,32,42,50,71] ?_
  refine G_region' (L:=[0,1,2,3,4,5,6,7,8,9,10,11]) rfl ?_
  refine l_ rfl (L_load rfl (xb0 ty_27)) ?_
  refine xmv ?_
  refine p_ rfl xb2 ?_
  refine x_call rfl rfl rfl rfl rfl ca_15 (c_spec_CrackAt_ok c1 (md+1) k1 bm1) ?_
  rintro r S ⟨rfl,rfl⟩
  generalize crackC c1 (md+1)=P at *
  obtain⟨c2,s2⟩:=P
  dsimp only at hsp
  rw [hsp] at hgs k2 k3 k4
  refine xmv ?_
  refine p_ rfl (L_extract rfl rfl) ?_
  refine p_ rfl (L_extract rfl rfl) ?_
  refine p_ rfl (L_extract rfl rfl) ?_
  refine x_alloc rfl rfl rfl rfl za_27 ?_
  refine EOps_go rfl rfl (EOp_store rfl rfl rfl (xb1 ty_27) ?_)
  refine xas ?_
  refine xas ?_
  refine EOps_nil ?_
  refine G_seq ?_
  refine G_region' (L:=[0,1]) rfl ?_
  refine l_ rfl (L_load rfl (xb0 ty_27)) ?_
  refine EOps_go rfl rfl (EOp_store rfl rfl rfl (xb1 ty_27) ?_)
  refine EOps_nil ?_
  refine G_region' (L:=[0,1,2]) rfl ?_
  refine xmv ?_
  refine p_ rfl xb2 ?_
  refine xas ?_
  refine EOps_nil ?_
  refine⟨[0,1,12,13,14,5],rfl,(f',c2,rr+1),?_,?_,rfl,⟨.inr (int_eq (by dsimp only)),trivial⟩,⟨.inr rfl,.inr rfl,.inr rfl,.inr rfl,.inr rfl,.inr rfl,trivial⟩⟩
  · first|omega|(dsimp only;omega)|(simp;omega)
  exact⟨k2,k3.trans hvl,hgs.symm.trans hgo,by dsimp only;omega,by dsimp only;omega,by dsimp only;omega⟩

end Go.Proofs.Ytcepgfcolmdnoaa.E
