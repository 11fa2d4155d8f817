/- Walks through functions, by program out of the session's annotations. -/
import Derived.Test.YtlodlnbhjghjoaaGreatA11
import Derived.Test.YtlodlnbhjghjoaaGreatF3
namespace Go.Proofs.YtlodlnbhjghjoaaGreat.E
open Go Go.RowKit Go.Proofs
set_option linter.unusedVariables false
set_option linter.unusedSimpArgs false

def cmpI (a b:Int):Int:=if a<b then -1 else if a > b then 1 else 0
def orI : List Int → Int
 | []=>0
 | x::t=>if x ≠ 0 then x else orI t
theorem orI_at : ∀ {xs : List Int} {k : Nat} {x : Int}, (∀ y ∈ xs.take k, y = 0) → xs[k]? = some x → x ≠ 0 → orI xs = x
 | [],k,x,_,h,_=>by simp at h
 | a :: t, 0, x, _, h, hx => by
  obtain rfl:a=x:=by simpa using h
  simp [orI,hx]
 | a :: t, k + 1, x, h0, h, hx => by
  have ha:a=0:=h0 a (by simp)
  subst ha
  simp only [orI,ne_eq,not_true,if_false]
  exact orI_at (k:=k) (fun y hy=>h0 y (by simp [hy])) (by simpa using h) hx
theorem orI_none : ∀ {xs : List Int}, (∀ y ∈ xs, y = 0) → orI xs = 0
 | [],_=>rfl
 | a :: t, h => by
  have ha:a=0:=h a (by simp)
  subst ha
  simp only [orI,ne_eq,not_true,if_false]
  exact orI_none fun y hy=>h y (by simp [hy])
theorem zero_step {xs : List Int} {k : Nat} {x : Int} (h : ∀ y ∈ xs.take k, y = 0) (hx : xs[k]? = some x) (h0 : x = 0) : ∀ y ∈ xs.take (k + 1), y = 0 := by
 intro y hy
 rw [List.take_add_one,hx] at hy
 rcases List.mem_append.1 hy with hy|hy
 ·exact h y hy
 have : y = x := by simpa using hy
 omega
def cmpE (x y:Int × Int):Int:=orI [cmpI x.1 y.1,cmpI x.2 y.2]
theorem cmpE_neg (x y : Int × Int) : cmpE x y < 0 ↔ (x.1 < y.1 ∨ (x.1 = y.1 ∧ x.2 < y.2)) := by
 simp only [cmpE,orI,cmpI]
 split<;>split<;>(try split)<;>(try split)<;>(try split)<;>simp_all<;>omega
def okAt (xs:List (Int × Int)) (i:Nat):Bool:=!decide (cmpE (xs.getD i (0,0)) (xs.getD (i - 1) (0,0))<0)
theorem okAt_at {xs:List (Int × Int)} {i:Nat} {x y:Int × Int} (hx:xs[i]? = some x) (hy:xs[i - 1]? = some y):okAt xs i = !decide (cmpE x y<0):=by rw [okAt,getD_of hx,getD_of hy]
def srtL (xs:List (Int × Int)):Bool:=allK (fun k=>okAt xs (k+1)) (xs.length - 1)
theorem srtL_yes {xs:List (Int × Int)} (h:∀ i,0<i→i<xs.length→okAt xs i=true):srtL xs=true:=allK_iff.2 fun k hk=>h (k+1) (by omega) (by omega)
theorem srtL_no {xs:List (Int × Int)} {i:Nat} (h0:0<i) (hi:i<xs.length) (h:okAt xs i=false):srtL xs=false:=allK_not (k:=i - 1) (by rw [show i - 1+1=i by omega];exact h) (by omega)
/-- The elements from a on. -/
def elI (c:Crk) (i:Int):Int × Int:=(c.vals.getD i.toNat 0,c.rows.getD i.toNat 0)
def elemsN (c : Crk) (a : Int) : Nat → List (Int × Int)
 | 0=>[]
 | n+1=>elemsN c a n++[elI c (a+n)]
theorem elemsN_len (c : Crk) (a : Int) : ∀ n, (elemsN c a n).length = n
 | 0=>rfl
 | n+1=>by simp [elemsN,elemsN_len c a n]
def srt (c:Crk) (a b:Int):Bool:=srtL (elemsN c a (b - a).toNat)
def cutIx (l:List (Int × Int)) (v:Int):Nat:=l.findIdx fun p=>decide (v<p.1)
def aOf (l:List (Int × Int)) (k:Nat):Int:=if k=0 then 0 else (l.getD (k - 1) (0,0)).2
def zOf (l:List (Int × Int)) (n:Int) (k:Nat):Int:=if k<l.length then (l.getD k (0,0)).2 else n
theorem cutIx_le (l:List (Int × Int)) (v:Int):cutIx l v≤l.length:=List.findIdx_le_length
theorem cutIx_at {l : List (Int × Int)} {v : Int} {k : Nat} {p : Int × Int} (h : ∀ q ∈ l.take k, ¬ v < q.1) (hp : l[k]? = some p) (hv : v < p.1) : cutIx l v = k := by
 have hk : k < l.length := by
  rcases Nat.lt_or_ge k l.length with h'|h'
  ·exact h'
  rw [List.getElem?_eq_none h'] at hp;cases hp
 unfold cutIx
 rw [List.findIdx_eq hk]
 refine⟨by rw [List.getElem?_eq_getElem hk] at hp;rw [Option.some.inj hp];simpa using hv,fun j hj=>?_⟩
 have:=h l[j] (List.mem_of_getElem? (i:=j) (by rw [List.getElem?_take,if_pos hj];exact List.getElem?_eq_getElem (by omega)))
 simpa using this
theorem cutIx_none {l : List (Int × Int)} {v : Int} (h : ∀ q ∈ l, ¬ v < q.1) : cutIx l v = l.length := by
 unfold cutIx
 rw [List.findIdx_eq_length]
 intro q hq
 simpa using h q hq
theorem below_step {l : List (Int × Int)} {v : Int} {k : Nat} {p : Int × Int} (h : ∀ q ∈ l.take k, ¬ v < q.1) (hp : l[k]? = some p) (hv : ¬ v < p.1) : ∀ q ∈ l.take (k + 1), ¬ v < q.1 := by
 intro q hq
 rw [List.take_add_one,hp] at hq
 rcases List.mem_append.1 hq with hq|hq
 ·exact h q hq
 have : q = p := by simpa using hq
 rw [this];exact hv
theorem aOf_step {l : List (Int × Int)} {k : Nat} {p : Int × Int} (hp : l[k]? = some p) : aOf l (k + 1) = p.2 := by
 rw [aOf,if_neg (by omega),Nat.add_sub_cancel,getD_of hp]
theorem zOf_at {l : List (Int × Int)} {n : Int} {k : Nat} {p : Int × Int} (hp : l[k]? = some p) : zOf l n k = p.2 := by
 have hk : k < l.length := by
  rcases Nat.lt_or_ge k l.length with h'|h'
  ·exact h'
  rw [List.getElem?_eq_none h'] at hp;cases hp
 rw [zOf,if_pos hk,getD_of hp]
theorem zOf_end (l:List (Int × Int)) (n:Int):zOf l n l.length=n:=by simp [zOf]
/-- Pivots as a column has them: what follows of it. -/
theorem piv_parts {c : Crk} (h : isCrk c = true) {k : Nat} {p : Int × Int} (hp : c.piv[k]? = some p) : 0 ≤ p.2 ∧ p.2 ≤ c.vals.length ∧ ∀ q, 0 < k → c.piv[k - 1]? = some q → q.1 < p.1 ∧ q.2 ≤ p.2 := by
 have hk : k < c.piv.length := by
  rcases Nat.lt_or_ge k c.piv.length with h'|h'
  ·exact h'
  rw [List.getElem?_eq_none h'] at hp;cases hp
 simp only [isCrk,Bool.and_eq_true] at h
 have h1:=allK_at h.2 hk
 rw [pivP,getD_of hp] at h1
 simp only [pivQ,isIn,Bool.and_eq_true,Bool.or_eq_true,decide_eq_true_eq] at h1
 refine⟨by omega,by omega,fun q h0 hq=>?_⟩
 rw [getD_of hq] at h1
 omega
theorem crk_lens {c : Crk} (h : isCrk c = true) : c.vals.length ≤ 64 ∧ c.rows.length = c.vals.length ∧ c.piv.length ≤ 2001 := by
 refine⟨?_,?_,?_⟩
 ·simp only [isCrk, Bool.and_eq_true] at h
  exact (areVals_parts h.1.1.1).1
 ·simp only [isCrk, Bool.and_eq_true, decide_eq_true_eq] at h
  exact h.1.1.2
 rcases Nat.lt_or_ge 2001 c.piv.length with h' | h'
 ·rw [crk_many h'] at h;cases h
 exact h'
theorem at_lt {α:Type} {l:List α} {k:Nat} (h:k<l.length):∃ x,l[k]? = some x:=⟨_,List.getElem?_eq_getElem h⟩
theorem cut_bounds {c : Crk} (h : isCrk c = true) {k : Nat} (hk : k ≤ c.piv.length) : 0 ≤ aOf c.piv k ∧ aOf c.piv k ≤ zOf c.piv c.vals.length k ∧ zOf c.piv c.vals.length k ≤ c.vals.length := by
 rcases Nat.eq_zero_or_pos k with rfl|h0
 ·rcases Nat.eq_zero_or_pos c.piv.length with e | e
  ·rw [show zOf c.piv c.vals.length 0 = c.vals.length by simp [zOf, e]]
   simp [aOf]
  obtain ⟨p, hp⟩ := at_lt e
  have:=piv_parts h hp
  rw [zOf_at hp]
  simp only [aOf,if_true]
  omega
 obtain ⟨q, hq⟩ := at_lt (l := c.piv) (k := k - 1) (by omega)
 have hq1:=piv_parts h hq
 have ha : aOf c.piv k = q.2 := by
  have:=aOf_step hq
  rwa [show k - 1+1=k by omega] at this
 rcases Nat.lt_or_ge k c.piv.length with h'|h'
 ·obtain ⟨p, hp⟩ := at_lt h'
  have hp1:=piv_parts h hp
  have:=hp1.2.2 q h0 hq
  rw [zOf_at hp,ha]
  omega
 obtain rfl : k = c.piv.length := by omega
 rw [zOf_end,ha]
 omega
/-- The first pivot above v parts them. -/
theorem piv_sorted {c : Crk} (h : isCrk c = true) {v : Int} : ∀ {k : Nat} {p : Int × Int}, c.piv[k]? = some p → (v < p.1 ↔ cutIx c.piv v ≤ k)
 | k, p, hp => by
  have hk : k < c.piv.length := by
   rcases Nat.lt_or_ge k c.piv.length with h'|h'
   ·exact h'
   rw [List.getElem?_eq_none h'] at hp;cases hp
  have mono : ∀ (j : Nat) (d : Nat) (q r : Int × Int), c.piv[j]? = some q → c.piv[j + d]? = some r → q.1 ≤ r.1 := by
   intro j d
   induction d with
   | zero=>intro q r h1 h2;rw [Nat.add_zero,h1] at h2;cases h2;exact Int.le_refl _
   | succ d ih =>
    intro q r h1 h2
    have hjd : j + d < c.piv.length := by
     rcases Nat.lt_or_ge (j+d) c.piv.length with h'|h'
     ·exact h'
     rw [List.getElem?_eq_none (by omega)] at h2;cases h2
    obtain⟨m,hm⟩:=at_lt hjd
    have e1:=ih q m h1 hm
    have e2:=(piv_parts h h2).2.2 m (by omega) (by rw [show j+(d+1) - 1=j+d by omega];exact hm)
    omega
  constructor
  ·intro hv
   rcases Nat.lt_or_ge k (cutIx c.piv v) with h'|h'
   ·have := List.not_of_lt_findIdx (p := fun p : Int × Int => decide (v < p.1)) (xs := c.piv) h'
    rw [List.getElem?_eq_getElem hk] at hp
    rw [Option.some.inj hp] at this
    simp at this
    omega
   exact h'
  intro hc
  have hlt:cutIx c.piv v<c.piv.length:=by omega
  have:=List.findIdx_getElem (p:=fun p:Int × Int=>decide (v<p.1)) (xs:=c.piv) (w:=hlt)
  have h1:=mono (cutIx c.piv v) (k - cutIx c.piv v) _ p (List.getElem?_eq_getElem hlt) (by rw [show cutIx c.piv v+(k - cutIx c.piv v)=k by omega];exact hp)
  have h2:v<(c.piv[cutIx c.piv v]).1:=of_decide_eq_true this
  omega

set_option maxRecDepth 20000 in
set_option maxHeartbeats 2000000 in
theorem c_cmp_isNaN_int_ (x : Int) : EFn Tryz.prog 256 [.c (.sc (.int .i64 x))] [] (fun r S => r = .c (.sc (.bool false)) ∧ S = []) := by
 refine E_fn Tryz.func256 rfl (Nat.le_of_ble_eq_true rfl) ?_
 refine E_seq ?_
 refine E_region' (L:=[0]) rfl ?_
 refine xas ?_
 refine EOps_nil ?_
 refine E_seq ?_
 refine E_region' (L:=[0,1,2,3]) rfl ?_
 refine xmv ?_
 refine xmv ?_
 refine p_ rfl (L_bin rfl rfl rfl rfl) ?_
 refine xas ?_
 refine EOps_nil ?_
 refine E_ret ?_
 refine⟨_,[],rfl,rfl,bool_eq ?_,rfl⟩
 simp

set_option maxRecDepth 20000 in
set_option maxHeartbeats 2000000 in
theorem c_cmp_Compare_int_ (x y : Int) : EFn Tryz.prog 230 [.c (.sc (.int .i64 x)), .c (.sc (.int .i64 y))] [] (fun r S => r = .c (.sc (.int .i64 (cmpI x y))) ∧ S = []) := by
 refine E_fn Tryz.func230 rfl (Nat.le_of_ble_eq_true rfl) ?_
 refine E_seq ?_
 refine E_region' (L:=[0]) rfl ?_
 refine xas ?_
 refine EOps_nil ?_
 refine E_seq ?_
 refine e_tidy [0,1,4] ?_
 refine E_region' (L:=[0,1,2]) rfl ?_
 refine xmv ?_
 refine x_call rfl rfl rfl rfl rfl ca_256 (c_cmp_isNaN_int_ x) ?_
 rintro r S ⟨rfl,rfl⟩
 refine xas ?_
 refine EOps_nil ?_
 refine E_seq ?_
 refine e_tidy [0,1,4,5] ?_
 refine E_region' (L:=[0,1,2]) rfl ?_
 refine xmv ?_
 refine x_call rfl rfl rfl rfl rfl ca_256 (c_cmp_isNaN_int_ y) ?_
 rintro r S ⟨rfl,rfl⟩
 refine xas ?_
 refine EOps_nil ?_
 refine E_seq ?_
 refine E_seq ?_
 refine E_region' (L:=[0]) rfl ?_
 refine xmv ?_
 refine EOps_nil ?_
 refine E_cond rfl (fun hc11=>?_) (fun hc11=>?_)
 ·cases hc11
 refine E_skip ?_
 refine E_seq ?_
 refine E_seq ?_
 refine E_region' (L:=[0]) rfl ?_
 refine xmv ?_
 refine EOps_nil ?_
 refine E_cond rfl (fun hc13=>?_) (fun hc13=>?_)
 ·cases hc13
 refine E_skip ?_
 refine E_seq ?_
 refine E_seq ?_
 refine E_region' (L:=[0,1,2]) rfl ?_
 refine xmv ?_
 refine xmv ?_
 refine p_ rfl (L_bin rfl rfl rfl rfl) ?_
 refine EOps_nil ?_
 refine E_cond rfl (fun hc16=>?_) (fun hc16=>?_)
 ·refine E_seq ?_
  refine E_region' (L:=[0]) rfl ?_
  refine xas ?_
  refine EOps_nil ?_
  refine E_ret ?_
  refine⟨_,[],rfl,rfl,int_eq ?_,rfl⟩
  simp_all [cmpI]<;>omega
 refine E_skip ?_
 refine E_seq ?_
 refine E_seq ?_
 refine E_region' (L:=[0,1,2]) rfl ?_
 refine xmv ?_
 refine xmv ?_
 refine p_ rfl (L_bin rfl rfl rfl rfl) ?_
 refine EOps_nil ?_
 refine E_cond rfl (fun hc19=>?_) (fun hc19=>?_)
 ·refine E_seq ?_
  refine E_region' (L:=[0]) rfl ?_
  refine xas ?_
  refine EOps_nil ?_
  refine E_ret ?_
  refine⟨_,[],rfl,rfl,int_eq ?_,rfl⟩
  simp_all [cmpI]<;>omega
 refine E_skip ?_
 refine E_seq ?_
 refine E_region' (L:=[0]) rfl ?_
 refine xas ?_
 refine EOps_nil ?_
 refine E_ret ?_
 refine⟨_,[],rfl,rfl,int_eq ?_,rfl⟩
 simp_all [cmpI]<;>omega

set_option maxRecDepth 20000 in
set_option maxHeartbeats 2000000 in
theorem c_cmp_Or_int_ (xs : List Int) : EFn Tryz.prog 229 [.c (.ro (ints xs))] [] (fun r S => r = .c (.sc (.int .i64 (orI xs))) ∧ S = []) := by
 refine E_fn Tryz.func229 rfl (Nat.le_of_ble_eq_true rfl) ?_
 refine E_bound (t:=0) (rows:=ints xs) rfl fun hb=>?_
 rw [ints_len] at hb
 refine E_seq ?_
 refine E_region' (L:=[0]) rfl ?_
 refine xas ?_
 refine EOps_nil ?_
 refine E_seq ?_
 refine E_region' (L:=[0]) rfl ?_
 refine xas ?_
 refine EOps_nil ?_
 refine E_seq ?_
 refine E_seq ?_
 refine E_region' (L:=[0,1,2]) rfl ?_
 refine xmv ?_
 refine p_ rfl (l_len rfl sl_22) ?_
 refine xmv ?_
 refine EOps_nil ?_
 refine E_block ?_
 refine e_for (α:=Nat) [0,3,6,7] (fun k=>[(8,.c (.sc (.int .i64 (k))))]) (fun _=>_) (fun k=>k≤xs.length ∧ ∀ y ∈ xs.take k,y=0) (fun k=>xs.length - k) (0) ?_ (rfl) ⟨.inr rfl,trivial⟩ ?_
 ·simp
 rintro k ⟨hk,hz⟩
 refine E_seq ?_
 refine E_region' (L:=[0]) rfl ?_
 refine p_ rfl (L_bin rfl rfl rfl rfl) ?_
 refine EOps_nil ?_
 refine E_seq ?_
 refine E_cond rfl (fun hc9=>?_) (fun hc9=>?_)
 ·have hc9' : k < (xs).length := by simpa [ints_len, bools_len, pairs_len, quads_len, quints_len] using hc9
  obtain⟨x,hx⟩:∃ x,(xs)[k]? = some x:=⟨_,List.getElem?_eq_getElem hc9'⟩
  refine E_skip ?_
  refine E_seq ?_
  refine E_block ?_
  refine E_seq ?_
  refine E_region' (L:=[0,1,2]) rfl ?_
  refine p_ rfl (L_index rfl rfl (xii sl_22 ty_3)) ?_
  refine l_ rfl (L_load rfl (xb0 ty_3)) ?_
  refine xas ?_
  refine EOps_nil ?_
  refine E_seq ?_
  refine E_region' (L:=[0,1,2]) rfl ?_
  refine xmv ?_
  refine xmv ?_
  refine p_ rfl (L_bin rfl rfl rfl rfl) ?_
  refine EOps_nil ?_
  refine E_cond rfl (fun hc14=>?_) (fun hc14=>?_)
  ·have he := orI_at hz hx (by simpa using hc14)
   refine E_seq ?_
   refine E_region' (L:=[0,1]) rfl ?_
   refine xmv ?_
   refine xas ?_
   refine EOps_nil ?_
   refine E_ret ?_
   refine⟨_,[],rfl,rfl,int_eq ?_,rfl⟩
   exact he.symm
  refine E_skip ?_
  refine E_region' (L:=[0,1]) rfl ?_
  refine p_ rfl xb2 ?_
  refine xmv ?_
  refine EOps_nil ?_
  refine⟨k+1,?_,?_,rfl,⟨.inr rfl,trivial⟩,⟨.inr rfl,.inr rfl,.inr rfl,.inr rfl,trivial⟩⟩
  ·first|omega|(dsimp only;omega)|(simp;omega)
  exact⟨by omega,zero_step hz hx (by simpa using hc14)⟩
 have he : orI xs = 0 := by
  have hk':xs.length≤k:=by simpa [ints_len] using hc9
  rw [List.take_of_length_le hk'] at hz
  exact orI_none hz
 refine E_exit ?_
 refine E_seq ?_
 refine E_region' (L:=[0,1]) rfl ?_
 refine xmv ?_
 refine xas ?_
 refine EOps_nil ?_
 refine E_ret ?_
 refine⟨_,[],rfl,rfl,int_eq ?_,rfl⟩
 exact he.symm

set_option maxRecDepth 20000 in
set_option maxHeartbeats 2000000 in
theorem c_impl_compare (x y : Int × Int) : EFn Tryz.prog 209 [.agg [.sc (.int .i64 x.1), .sc (.int .i64 x.2)], .agg [.sc (.int .i64 y.1), .sc (.int .i64 y.2)]] [] (fun r S => r = .c (.sc (.int .i64 (cmpE x y))) ∧ S = []) := by
 refine E_fn Tryz.func209 rfl (Nat.le_of_ble_eq_true rfl) ?_
 refine E_seq ?_
 refine E_region' (L:=[0,1,2]) rfl ?_
 refine x_box rfl rfl rfl rfl rfl ?_
 refine x_box rfl rfl rfl rfl rfl ?_
 refine xas ?_
 refine EOps_nil ?_
 refine E_seq ?_
 refine E_drawT mixed ?_
 refine tj_ 0 rfl (l_field rfl fo_216_0) ?_
 refine tl_ 1 rfl (L_load rfl (xb0 ty_3)) ?_
 refine tj_ 2 rfl (l_field rfl fo_216_0) ?_
 refine tl_ 3 rfl (L_load rfl (xb0 ty_3)) ?_
 refine tj_ 5 rfl (l_field rfl fo_216_1) ?_
 refine tl_ 6 rfl (L_load rfl (xb0 ty_3)) ?_
 refine tj_ 7 rfl (l_field rfl fo_216_1) ?_
 refine tl_ 8 rfl (L_load rfl (xb0 ty_3)) ?_
 refine t_fresh 3 [(⟨none,4,9,0⟩,_),(⟨none,9,14,0⟩,_)] [(9,.any),(14,.any)] [4,9] ⟨.one rfl rfl rfl (by decide) (f_call rfl rfl ca_230 (c_cmp_Compare_int_ x.1 y.1)),.one rfl rfl rfl (by decide) (f_call rfl rfl ca_230 (c_cmp_Compare_int_ x.2 y.2)),trivial⟩ ?_
 refine fk_cons ?_
 rintro r S ⟨rfl,rfl⟩
 refine fk_cons ?_
 rintro r S ⟨rfl,rfl⟩
 refine fk_nil ?_
 refine t_turn 10 rfl rfl (Heavy.op (H_bslice_ro rfl rfl (by decide) sl_22 ty_3 za_3 ⟨rfl,by decide⟩ (by decide) rfl rfl rfl rfl ?_))
 refine t_call 11 rfl rfl rfl rfl rfl ca_229 (c_cmp_Or_int_ [cmpI x.1 y.1,cmpI x.2 y.2]) ?_
 rintro r S ⟨rfl,rfl⟩
 refine tj_ 12 rfl (L_assign rfl) ?_
 refine T_done (by kernel_rfl) ?_
 refine E_ret ?_
 exact⟨_,[],rfl,rfl,rfl,rfl⟩

set_option maxRecDepth 20000 in
set_option maxHeartbeats 2000000 in
theorem c_slices_IsSortedFunc___impl_element_impl_element_ (xs : List (Int × Int)) : EFn Tryz.prog 211 [.c (.ro (pairs xs)), .c (.fn 209 [])] [] (fun r S => r = .c (.sc (.bool (srtL xs))) ∧ S = []) := by
 refine E_fn Tryz.func211 rfl (Nat.le_of_ble_eq_true rfl) ?_
 refine E_bound (t:=0) (rows:=pairs xs) rfl fun hb=>?_
 rw [pairs_len] at hb
 refine E_seq ?_
 refine E_region' (L:=[0]) rfl ?_
 refine xas ?_
 refine EOps_nil ?_
 refine E_seq ?_
 refine E_seq ?_
 refine E_region' (L:=[0,1,2,3]) rfl ?_
 refine xmv ?_
 refine p_ rfl (l_len rfl sl_212) ?_
 refine p_ rfl xb5 ?_
 refine xas ?_
 refine EOps_nil ?_
 refine E_block ?_
 refine e_for (α:=Nat) [0,1] (fun k=>[(5,.c (.sc (.int .i64 (((pairs xs).length - 1 - k)))))]) (fun _=>_) (fun k=>k≤xs.length ∧ ∀ i,xs.length - k≤i→i<xs.length→okAt xs i=true) (fun k=>xs.length - k) (0) ?_ (rfl) ⟨.inr (int_eq (by simp)),trivial⟩ ?_
 ·exact⟨Nat.zero_le _,fun i h1 h2=>absurd h2 (by omega)⟩
 rintro k ⟨hk,hall⟩
 have hpl:(pairs xs).length=xs.length:=pairs_len _
 refine E_seq ?_
 refine E_seq ?_
 refine E_region' (L:=[0,1]) rfl ?_
 refine xmv ?_
 refine p_ rfl (L_bin rfl rfl rfl rfl) ?_
 refine EOps_nil ?_
 refine E_cond rfl (fun hc10=>?_) (fun hc10=>?_)
 ·have hk1 : k + 1 < xs.length := by simp at hc10; omega
  obtain⟨x,hx⟩:=at_lt (l:=xs) (k:=xs.length - 1 - k) (by omega)
  obtain⟨y,hy⟩:=at_lt (l:=xs) (k:=xs.length - 1 - k - 1) (by omega)
  have hx':xs[(((pairs xs).length:Int) - 1 - (k:Int)).toNat]? = some x:=by rw [hpl,show ((xs.length:Int) - 1 - (k:Int)).toNat=xs.length - 1 - k by omega];exact hx
  have hy':xs[(((pairs xs).length:Int) - 1 - (k:Int) - 1).toNat]? = some y:=by rw [hpl,show ((xs.length:Int) - 1 - (k:Int) - 1).toNat=xs.length - 1 - k - 1 by omega];exact hy
  have hok:=okAt_at hx hy
  refine E_skip ?_
  refine E_seq ?_
  refine E_block ?_
  refine E_seq ?_
  refine E_drawT mixed ?_
  refine tj_ 0 rfl (L_move rfl) ?_
  refine tj_ 1 rfl (L_move rfl) ?_
  refine tj_ 2 rfl (L_move rfl) ?_
  refine tj_ 3 rfl (L_index rfl rfl (xii sl_212 ty_216)) ?_
  refine tl_ 4 rfl (L_load rfl (xb0 ty_216)) ?_
  refine tj_ 5 rfl (L_move rfl) ?_
  refine tj_ 6 rfl (L_move rfl) ?_
  refine tj_ 7 rfl xb5 ?_
  refine tj_ 8 rfl (L_index rfl rfl (xii sl_212 ty_216)) ?_
  refine tl_ 9 rfl (L_load rfl (xb0 ty_216)) ?_
  refine t_call 10 rfl rfl rfl rfl rfl ca_209 (c_impl_compare x y) ?_
  rintro r S ⟨rfl,rfl⟩
  refine tj_ 11 rfl (L_bin rfl rfl rfl rfl) ?_
  refine T_done (by kernel_rfl) ?_
  refine E_cond rfl (fun hc24=>?_) (fun hc24=>?_)
  ·have hf := srtL_no (xs := xs) (i := xs.length - 1 - k) (by omega) (by omega) (by rw [hok, hc24]; rfl)
   refine E_seq ?_
   refine E_region' (L:=[0]) rfl ?_
   refine xas ?_
   refine EOps_nil ?_
   refine E_ret ?_
   refine⟨_,[],rfl,rfl,bool_eq ?_,rfl⟩
   simp [hf]
  refine E_skip ?_
  refine E_region' (L:=[0,1,2]) rfl ?_
  refine xmv ?_
  refine p_ rfl xb5 ?_
  refine xas ?_
  refine EOps_nil ?_
  refine⟨k+1,?_,?_,rfl,⟨.inr (int_eq (by omega)),trivial⟩,⟨.inr rfl,.inr rfl,trivial⟩⟩
  ·first|omega|(dsimp only;omega)|(simp;omega)
  exact ⟨by omega, fun i h1 h2 => by
   rcases Nat.lt_or_ge i (xs.length - k) with h|h
   ·rw [show i=xs.length - 1 - k by omega,hok,hc24];rfl
   exact hall i h h2⟩
 have hf := srtL_yes (xs := xs) (fun i h1 h2 => hall i (by simp at hc10; omega) h2)
 refine E_exit ?_
 refine E_seq ?_
 refine E_region' (L:=[0]) rfl ?_
 refine xas ?_
 refine EOps_nil ?_
 refine E_ret ?_
 refine⟨_,[],rfl,rfl,bool_eq ?_,rfl⟩
 simp [hf]

set_option maxRecDepth 20000 in
set_option maxHeartbeats 2000000 in
theorem c_impl_elements (c : Crk) (a b : Int) (h : 0 ≤ a ∧ a ≤ b ∧ b ≤ c.vals.length ∧ c.rows.length = c.vals.length ∧ c.vals.length ≤ 64) : EFn Tryz.prog 207 [.agg (crkC c), .c (.sc (.int .i64 a)), .c (.sc (.int .i64 b))] [] (fun r S => r = .c (.sl 0 0 (b - a).toNat (b - a).toNat) ∧ S = [.row 216 2 (pairs (elemsN c a (b - a).toNat))]) := by
 refine E_fn Tryz.func207 rfl (Nat.le_of_ble_eq_true rfl) ?_
 refine E_seq ?_
 refine E_region' (L:=[0,1]) rfl ?_
 refine x_box rfl rfl rfl rfl rfl ?_
 refine xas ?_
 refine EOps_nil ?_
 refine E_seq ?_
 refine E_region' (L:=[0,1]) rfl ?_
 refine EOps_go rfl rfl (Heavy.op (H_bslice rfl rfl (by decide) sl_212 ty_216 za_216 ⟨rfl,by decide⟩ (by decide) rfl rfl rfl rfl ?_))
 refine xas ?_
 refine EOps_nil ?_
 refine E_seq ?_
 refine E_seq ?_
 refine E_region' (L:=[0,1]) rfl ?_
 refine xmv ?_
 refine xas ?_
 refine EOps_nil ?_
 refine E_block ?_
 refine e_for (α:=Nat) [0,1,2,3,6] (fun k=>[(8,.c (.sc (.int .i64 ((a+k))))),(7,.c (.sl 1 0 k k))]) (fun k=>[.box (crkC c),.row 216 2 (pairs (elemsN c a k))]) (fun k=>a+k≤b) (fun k=>(b - a).toNat - k) (0) ?_ (rfl) ⟨.inr (int_eq (by simp)),.inr rfl,trivial⟩ ?_
 ·show a+((0:Nat):Int)≤b;omega
 rintro k hk
 refine E_seq ?_
 refine E_seq ?_
 refine E_region' (L:=[0,1,2]) rfl ?_
 refine xmv ?_
 refine xmv ?_
 refine p_ rfl (L_bin rfl rfl rfl rfl) ?_
 refine EOps_nil ?_
 refine E_cond rfl (fun hc13=>?_) (fun hc13=>?_)
 ·have hlt : a + (k : Int) < b := by simpa using hc13
  obtain⟨x,hx⟩:=at_lt (l:=c.vals) (k:=(a+(k:Int)).toNat) (by omega)
  obtain⟨y,hy⟩:=at_lt (l:=c.rows) (k:=(a+(k:Int)).toNat) (by omega)
  have hel:elI c (a+k)=(x,y):=by rw [elI,getD_of hx,getD_of hy]
  have hpl:(pairs (elemsN c a k)).length=k:=by rw [pairs_len,elemsN_len]
  refine E_skip ?_
  refine E_seq ?_
  refine E_block ?_
  refine E_drawT mixed ?_
  refine tj_ 0 rfl (L_move rfl) ?_
  refine tj_ 1 rfl (l_field rfl fo_49_0) ?_
  refine tl_ 2 rfl (L_load rfl (xb0 ty_22)) ?_
  refine tj_ 3 rfl (L_move rfl) ?_
  refine tj_ 4 rfl (L_index rfl rfl (xii sl_22 ty_3)) ?_
  refine tl_ 5 rfl (L_load rfl (xb0 ty_3)) ?_
  refine tj_ 6 rfl (l_field rfl fo_49_1) ?_
  refine tl_ 7 rfl (L_load rfl (xb0 ty_22)) ?_
  refine tj_ 8 rfl (L_move rfl) ?_
  refine tj_ 9 rfl (L_index rfl rfl (xii sl_22 ty_3)) ?_
  refine tl_ 10 rfl (L_load rfl (xb0 ty_3)) ?_
  refine tj_ 11 rfl (L_build rfl bd_216 rfl rfl) ?_
  refine t_turn 12 rfl rfl (Heavy.op (H_bslice_ro rfl rfl (by decide) sl_212 ty_216 za_216 ⟨rfl,by decide⟩ (by decide) rfl rfl rfl rfl ?_))
  refine t_turn 13 rfl rfl (EOp_append (news:=[[T.sc (.int .i64 x),T.sc (.int .i64 y)]]) rfl rfl (by decide) sl_212 ty_216 by_216 za_216 ⟨rfl,by decide⟩ rfl (by first|rfl|assumption) xb6 xb7 xb8 xb9 ?_)
  refine tj_ 14 rfl (L_assign rfl) ?_
  refine T_done (by kernel_rfl) ?_
  refine E_region' (L:=[0,1,2]) rfl ?_
  refine xmv ?_
  refine p_ rfl xb2 ?_
  refine xas ?_
  refine EOps_nil ?_
  refine⟨k+1,?_,?_,by simp [elemsN,pairs,hel],⟨.inr (int_eq (by omega)),.inr rfl,trivial⟩,⟨.inr rfl,.inr rfl,.inr rfl,.inr rfl,.inr rfl,trivial⟩⟩
  ·first|omega|(dsimp only;omega)|(simp;omega)
  first|trivial|omega|(dsimp only;omega)|(simp;omega)
 have hge : b ≤ a + (k : Int) := by simpa using hc13
 have hkk:k=(b - a).toNat:=by omega
 refine E_exit ?_
 refine E_seq ?_
 refine E_region' (L:=[0,1]) rfl ?_
 refine xmv ?_
 refine xas ?_
 refine EOps_nil ?_
 refine E_ret ?_
 subst hkk
 exact⟨_,[1],rfl,rfl,rfl,rfl⟩

set_option maxRecDepth 20000 in
set_option maxHeartbeats 2000000 in
theorem c_impl_sorted (c : Crk) (a b : Int) (h : 0 ≤ a ∧ a ≤ b ∧ b ≤ c.vals.length ∧ c.rows.length = c.vals.length ∧ c.vals.length ≤ 64) : EFn Tryz.prog 167 [.agg (crkC c), .c (.sc (.int .i64 a)), .c (.sc (.int .i64 b))] [] (fun r S => r = .c (.sc (.bool (srt c a b))) ∧ S = []) := by
 refine E_fn Tryz.func167 rfl (Nat.le_of_ble_eq_true rfl) ?_
 refine E_seq ?_
 refine E_region' (L:=[0,1]) rfl ?_
 refine x_box rfl rfl rfl rfl rfl ?_
 refine xas ?_
 refine EOps_nil ?_
 refine E_seq ?_
 refine e_tidy [0,1,2,3,6] ?_
 refine E_region' (L:=[0,1,2,3,4,5]) rfl ?_
 refine l_ rfl (L_load rfl (xb0 ty_49)) ?_
 refine xmv ?_
 refine xmv ?_
 refine x_call rfl rfl rfl rfl rfl ca_207 (c_impl_elements c a b h) ?_
 rintro r S ⟨rfl,rfl⟩
 refine x_call rfl rfl rfl rfl rfl ca_211 (c_slices_IsSortedFunc___impl_element_impl_element_ (elemsN c a (b - a).toNat)) ?_ (ha:=by exact cons_eq (lend_whole rfl (by rw [pairs_len,elemsN_len])) rfl)
 rintro r S ⟨rfl,rfl⟩
 refine xas ?_
 refine EOps_nil ?_
 refine E_ret ?_
 exact⟨_,[],rfl,rfl,rfl,rfl⟩

set_option maxRecDepth 20000 in
set_option maxHeartbeats 2000000 in
theorem c_impl_isNumber (v : Int) : EFn Tryz.prog 169 [.c (.sc (.int .i64 v))] [] (fun r S => r = .c (.sc (.bool (isIn v (-999) 999))) ∧ S = []) := by
 refine E_fn Tryz.func169 rfl (Nat.le_of_ble_eq_true rfl) ?_
 refine E_seq ?_
 refine E_region' (L:=[0]) rfl ?_
 refine xas ?_
 refine EOps_nil ?_
 refine E_seq ?_
 refine E_region' (L:=[0,1,2,3,4,5,6]) rfl ?_
 refine xmv ?_
 refine p_ rfl (L_bin rfl rfl rfl rfl) ?_
 refine xmv ?_
 refine EOps_split 5 (b:=_) rfl (fun hg5=>?_) (fun hg5=>?_)
 ·refine xmv ?_
  refine p_ rfl (L_bin rfl rfl rfl rfl) ?_
  refine p_ rfl (L_pick rfl rfl) ?_
  refine xas ?_
  refine EOps_nil ?_
  refine E_ret ?_
  refine⟨_,[],rfl,rfl,bool_eq ?_,rfl⟩
  first|(simp [isIn];done)|(simp [isIn];omega)|(simp [isIn];intros;omega)|(simp [isIn] at *;intros;omega)|simp_all [isIn]|(simp_all [isIn];omega)
 refine s_ rfl ?_
 refine s_ rfl ?_
 refine p_ rfl (L_pick rfl rfl) ?_
 refine xas ?_
 refine EOps_nil ?_
 refine E_ret ?_
 refine⟨_,[],rfl,rfl,bool_eq ?_,rfl⟩
 first|(simp [isIn];done)|(simp [isIn];omega)|(simp [isIn];intros;omega)|(simp [isIn] at *;intros;omega)|simp_all [isIn]|(simp_all [isIn];omega)

set_option maxRecDepth 20000 in
set_option maxHeartbeats 2000000 in
theorem c_impl_pieceAt (c : Crk) (v : Int) (h : isCrk c = true) : EFn Tryz.prog 170 [.agg (crkC c), .c (.sc (.int .i64 v))] [] (fun r S => r = .tup [(false, [.sc (.int .i64 (aOf c.piv (cutIx c.piv v)))]), (false, [.sc (.int .i64 (zOf c.piv c.vals.length (cutIx c.piv v)))])] ∧ S = []) := by
 refine E_fn Tryz.func170 rfl (Nat.le_of_ble_eq_true rfl) ?_
 refine E_G (n:=0) rfl ?_
 have hl:=crk_lens h
 refine G_seq ?_
 refine G_region' (L:=[0,1,2]) rfl ?_
 refine x_box rfl rfl rfl rfl rfl ?_
 refine xas ?_
 refine xas ?_
 refine EOps_nil ?_
 refine G_seq ?_
 refine G_region' (L:=[0]) rfl ?_
 refine xas ?_
 refine EOps_nil ?_
 refine G_seq ?_
 refine G_seq ?_
 refine G_region' (L:=[0,1,2,3]) rfl ?_
 refine p_ rfl (l_field rfl fo_49_2) ?_
 refine l_ rfl (L_load rfl (xb0 ty_47)) ?_
 refine p_ rfl (l_len rfl sl_47) ?_
 refine xmv ?_
 refine EOps_nil ?_
 refine G_block ?_
 refine g_forD (α:=Nat) [0,1,2,10,11] (fun k=>[(12,.c (.sc (.int .i64 (k)))),(6,.c (.sc (.int .i64 ((aOf c.piv k)))))]) (fun _=>_) (fun k=>k≤c.piv.length ∧ ∀ q ∈ c.piv.take k,¬ v<q.1) (fun k=>c.piv.length - k) (0) ?_ (rfl) ⟨.inr rfl,.inr rfl,trivial⟩ ?_
 ·simp
 rintro k ⟨hk,hlow⟩
 refine G_seq ?_
 refine G_region' (L:=[0]) rfl ?_
 refine p_ rfl (L_bin rfl rfl rfl rfl) ?_
 refine EOps_nil ?_
 refine G_seq ?_
 refine G_cond rfl (fun hc13=>?_) (fun hc13=>?_)
 ·have hc13' : k < (c.piv).length := by simpa [ints_len, bools_len, pairs_len, quads_len, quints_len] using hc13
  obtain⟨p,hp⟩:∃ x,(c.piv)[k]? = some x:=⟨_,List.getElem?_eq_getElem hc13'⟩
  refine G_skip ?_
  refine G_seq ?_
  refine G_block ?_
  refine G_seq ?_
  refine G_region' (L:=[0,1,2,3]) rfl ?_
  refine p_ rfl (L_index rfl rfl (xii sl_47 ty_151)) ?_
  refine l_ rfl (L_load rfl (xb0 ty_151)) ?_
  refine x_alloc rfl rfl rfl rfl za_151 ?_
  refine EOps_go rfl rfl (EOp_store rfl rfl rfl (xb1 ty_151) ?_)
  refine EOps_nil ?_
  refine G_seq ?_
  refine G_seq ?_
  refine G_region' (L:=[0,1,2,3]) rfl ?_
  refine p_ rfl (l_field rfl fo_151_0) ?_
  refine l_ rfl (L_load rfl (xb0 ty_3)) ?_
  refine xmv ?_
  refine p_ rfl (L_bin rfl rfl rfl rfl) ?_
  refine EOps_nil ?_
  refine G_cond rfl (fun hc19=>?_) (fun hc19=>?_)
  ·have hm := cutIx_at hlow hp (by simpa using hc19)
   have hz:=zOf_at (n:=c.vals.length) hp
   refine G_seq ?_
   refine G_drawT mixed ?_
   refine tj_ 0 rfl (L_move rfl) ?_
   refine tj_ 1 rfl (l_field rfl fo_151_1) ?_
   refine tl_ 2 rfl (L_load rfl (xb0 ty_3)) ?_
   refine tj_ 3 rfl (L_assign rfl) ?_
   refine tj_ 4 rfl (L_assign rfl) ?_
   refine T_done (by kernel_rfl) ?_
   refine G_ret ?_
   rw [hm,hz]
   exact⟨_,[],rfl,rfl,rfl,rfl⟩
  refine G_skip ?_
  refine G_region' (L:=[0,1,2]) rfl ?_
  refine p_ rfl (l_field rfl fo_151_1) ?_
  refine l_ rfl (L_load rfl (xb0 ty_3)) ?_
  refine xas ?_
  refine EOps_nil ?_
  refine G_region' (L:=[0,1]) rfl ?_
  refine p_ rfl xb2 ?_
  refine xmv ?_
  refine EOps_nil ?_
  refine⟨[0],rfl,k+1,?_,?_,rfl,⟨.inr rfl,.inr (int_eq (aOf_step hp).symm),trivial⟩,⟨.inr rfl,.inr rfl,.inr rfl,.inr rfl,.inr rfl,trivial⟩⟩
  ·first|omega|(dsimp only;omega)|(simp;omega)
  exact⟨by omega,below_step hlow hp (by simpa using hc19)⟩
 have hkk : k = c.piv.length := by simp [pairs_len] at hc13; omega
 have hm : cutIx c.piv v = k := by
  rw [hkk]
  rw [hkk,List.take_length] at hlow
  exact cutIx_none hlow
 have hz:zOf c.piv c.vals.length k=(ints c.vals).length:=by rw [hkk,zOf_end,ints_len]
 refine G_exit ?_
 refine G_seq ?_
 refine G_drawT mixed ?_
 refine tj_ 0 rfl (L_move rfl) ?_
 refine tj_ 1 rfl (l_field rfl fo_49_0) ?_
 refine tl_ 2 rfl (L_load rfl (xb0 ty_22)) ?_
 refine tj_ 3 rfl (l_len rfl sl_22) ?_
 refine tj_ 4 rfl (L_assign rfl) ?_
 refine tj_ 5 rfl (L_assign rfl) ?_
 refine T_done (by kernel_rfl) ?_
 refine G_ret ?_
 rw [hm,hz]
 exact⟨_,[],rfl,rfl,rfl,rfl⟩

set_option maxRecDepth 20000 in
set_option maxHeartbeats 2000000 in
theorem c_spec_l15Bounds (c : Crk) (v : Int) (h : isCrk c = true) : EFn Tryz.prog 171 [.agg (crkC c), .c (.sc (.int .i64 v))] [] (fun r S => r = .tup [(false, [.sc (.int .i64 (aOf c.piv (cutIx c.piv v)))]), (false, [.sc (.int .i64 (zOf c.piv c.vals.length (cutIx c.piv v)))])] ∧ S = []) := by
 refine E_fn Tryz.func171 rfl (Nat.le_of_ble_eq_true rfl) ?_
 have hl:=crk_lens h
 have hcl:=cutIx_le c.piv v
 refine E_seq ?_
 refine E_region' (L:=[0,1,2]) rfl ?_
 refine x_box rfl rfl rfl rfl rfl ?_
 refine xas ?_
 refine xas ?_
 refine EOps_nil ?_
 refine E_seq ?_
 refine E_region' (L:=[0]) rfl ?_
 refine xas ?_
 refine EOps_nil ?_
 refine E_seq ?_
 refine E_region' (L:=[0,1,2,3]) rfl ?_
 refine p_ rfl (l_field rfl fo_49_0) ?_
 refine l_ rfl (L_load rfl (xb0 ty_22)) ?_
 refine p_ rfl (l_len rfl sl_22) ?_
 refine xas ?_
 refine EOps_nil ?_
 refine E_seq ?_
 refine E_seq ?_
 refine E_region' (L:=[0]) rfl ?_
 refine xas ?_
 refine EOps_nil ?_
 refine E_block ?_
 refine e_for (α:=Nat) [0,1,2,4,5,7] (fun k=>[(8,.c (.sc (.int .i64 (k)))),(6,.c (.sc (.int .i64 ((aOf c.piv (min k (cutIx c.piv v)))))))]) (fun _=>_) (fun k=>k≤c.piv.length) (fun k=>c.piv.length - k) (0) ?_ (rfl) ⟨.inr rfl,.inr (int_eq (by simp [aOf])),trivial⟩ ?_
 ·simp
 rintro k hk
 refine E_seq ?_
 refine E_seq ?_
 refine E_region' (L:=[0,1,2,3,4]) rfl ?_
 refine xmv ?_
 refine p_ rfl (l_field rfl fo_49_2) ?_
 refine l_ rfl (L_load rfl (xb0 ty_47)) ?_
 refine p_ rfl (l_len rfl sl_47) ?_
 refine p_ rfl (L_bin rfl rfl rfl rfl) ?_
 refine EOps_nil ?_
 refine E_cond rfl (fun hc17=>?_) (fun hc17=>?_)
 ·have hc17' : k < (c.piv).length := by simpa [ints_len, bools_len, pairs_len, quads_len, quints_len] using hc17
  obtain⟨p,hp⟩:∃ x,(c.piv)[k]? = some x:=⟨_,List.getElem?_eq_getElem hc17'⟩
  have hps:=piv_sorted h (v:=v) hp
  refine E_skip ?_
  refine E_seq ?_
  refine E_block ?_
  refine E_seq ?_
  refine E_region' (L:=[0,1,2,3,4,5,6,7]) rfl ?_
  refine p_ rfl (l_field rfl fo_49_2) ?_
  refine l_ rfl (L_load rfl (xb0 ty_47)) ?_
  refine xmv ?_
  refine p_ rfl (L_index rfl rfl (xii sl_47 ty_151)) ?_
  refine p_ rfl (l_field rfl fo_151_0) ?_
  refine l_ rfl (L_load rfl (xb0 ty_3)) ?_
  refine xmv ?_
  refine p_ rfl (L_bin rfl rfl rfl rfl) ?_
  refine EOps_nil ?_
  refine E_cond rfl (fun hc27=>?_) (fun hc27=>?_)
  ·have hA : aOf c.piv (min (k + 1) (cutIx c.piv v)) = p.2 := by
    have:¬ cutIx c.piv v≤k:=fun e=>by have:=hps.2 e;simp at hc27;omega
    rw [show min (k+1) (cutIx c.piv v)=k+1 by omega]
    exact aOf_step hp
   refine E_region' (L:=[0,1,2,3,4,5,6]) rfl ?_
   refine p_ rfl (l_field rfl fo_49_2) ?_
   refine l_ rfl (L_load rfl (xb0 ty_47)) ?_
   refine xmv ?_
   refine p_ rfl (L_index rfl rfl (xii sl_47 ty_151)) ?_
   refine p_ rfl (l_field rfl fo_151_1) ?_
   refine l_ rfl (L_load rfl (xb0 ty_3)) ?_
   refine xas ?_
   refine EOps_nil ?_
   refine E_region' (L:=[0,1,2]) rfl ?_
   refine xmv ?_
   refine p_ rfl xb2 ?_
   refine xas ?_
   refine EOps_nil ?_
   refine⟨k+1,?_,?_,rfl,⟨.inr rfl,.inr (int_eq hA.symm),trivial⟩,⟨.inr rfl,.inr rfl,.inr rfl,.inr rfl,.inr rfl,.inr rfl,trivial⟩⟩
   ·first|omega|(dsimp only;omega)|(simp;omega)
   first|trivial|omega|(dsimp only;omega)|(simp;omega)
  have hA : aOf c.piv (min (k + 1) (cutIx c.piv v)) = aOf c.piv (min k (cutIx c.piv v)) := by
   have:cutIx c.piv v≤k:=hps.1 (by simp at hc27;omega)
   rw [show min (k+1) (cutIx c.piv v)=min k (cutIx c.piv v) by omega]
  refine E_skip ?_
  refine E_region' (L:=[0,1,2]) rfl ?_
  refine xmv ?_
  refine p_ rfl xb2 ?_
  refine xas ?_
  refine EOps_nil ?_
  refine⟨k+1,?_,?_,rfl,⟨.inr rfl,.inr (int_eq hA.symm),trivial⟩,⟨.inr rfl,.inr rfl,.inr rfl,.inr rfl,.inr rfl,.inr rfl,trivial⟩⟩
  ·first|omega|(dsimp only;omega)|(simp;omega)
  first|trivial|omega|(dsimp only;omega)|(simp;omega)
 have hkk : k = c.piv.length := by simp [pairs_len] at hc17; omega
 have hpl:(pairs c.piv).length=c.piv.length:=pairs_len _
 refine E_exit ?_
 refine E_seq ?_
 refine E_seq ?_
 refine E_region' (L:=[0,1,2,3,4]) rfl ?_
 refine p_ rfl (l_field rfl fo_49_2) ?_
 refine l_ rfl (L_load rfl (xb0 ty_47)) ?_
 refine p_ rfl (l_len rfl sl_47) ?_
 refine p_ rfl xb5 ?_
 refine xas ?_
 refine EOps_nil ?_
 refine E_block ?_
 refine e_for (α:=Nat) [0,1,2,4,5,6,8,17,27] (fun j=>[(9,.c (.sc (.int .i64 (((pairs c.piv).length - 1 - j))))),(7,.c (.sc (.int .i64 ((zOf c.piv c.vals.length (max (c.piv.length - j) (cutIx c.piv v)))))))]) (fun _=>_) (fun j=>j≤c.piv.length) (fun j=>c.piv.length - j) (0) ?_ (rfl) ⟨.inr (int_eq (by simp)),.inr (int_eq (by rw [show max (c.piv.length - 0) (cutIx c.piv v)=c.piv.length by omega,zOf_end,ints_len])),trivial⟩ ?_
 ·simp
 rintro j hj
 refine E_seq ?_
 refine E_seq ?_
 refine E_region' (L:=[0,1]) rfl ?_
 refine xmv ?_
 refine p_ rfl (L_bin rfl rfl rfl rfl) ?_
 refine EOps_nil ?_
 refine E_cond rfl (fun hc39=>?_) (fun hc39=>?_)
 ·have hj1 : j < c.piv.length := by simp at hc39; omega
  obtain⟨p,hp⟩:=at_lt (l:=c.piv) (k:=c.piv.length - 1 - j) (by omega)
  have hp':c.piv[(((pairs c.piv).length:Int) - 1 - (j:Int)).toNat]? = some p:=by rw [hpl,show ((c.piv.length:Int) - 1 - (j:Int)).toNat=c.piv.length - 1 - j by omega];exact hp
  have hps:=piv_sorted h (v:=v) hp
  refine E_skip ?_
  refine E_seq ?_
  refine E_block ?_
  refine E_seq ?_
  refine E_region' (L:=[0,1,2,3,4,5,6,7]) rfl ?_
  refine p_ rfl (l_field rfl fo_49_2) ?_
  refine l_ rfl (L_load rfl (xb0 ty_47)) ?_
  refine xmv ?_
  refine p_ rfl (L_index rfl rfl (xii sl_47 ty_151)) ?_
  refine p_ rfl (l_field rfl fo_151_0) ?_
  refine l_ rfl (L_load rfl (xb0 ty_3)) ?_
  refine xmv ?_
  refine p_ rfl (L_bin rfl rfl rfl rfl) ?_
  refine EOps_nil ?_
  refine E_cond rfl (fun hc49=>?_) (fun hc49=>?_)
  ·have hZ : zOf c.piv c.vals.length (max (c.piv.length - (j + 1)) (cutIx c.piv v)) = p.2 := by
    have:cutIx c.piv v≤c.piv.length - 1 - j:=hps.1 (by simpa using hc49)
    rw [show max (c.piv.length - (j+1)) (cutIx c.piv v)=c.piv.length - 1 - j by omega]
    exact zOf_at hp
   refine E_region' (L:=[0,1,2,3,4,5,6]) rfl ?_
   refine p_ rfl (l_field rfl fo_49_2) ?_
   refine l_ rfl (L_load rfl (xb0 ty_47)) ?_
   refine xmv ?_
   refine p_ rfl (L_index rfl rfl (xii sl_47 ty_151)) ?_
   refine p_ rfl (l_field rfl fo_151_1) ?_
   refine l_ rfl (L_load rfl (xb0 ty_3)) ?_
   refine xas ?_
   refine EOps_nil ?_
   refine E_region' (L:=[0,1,2]) rfl ?_
   refine xmv ?_
   refine p_ rfl xb5 ?_
   refine xas ?_
   refine EOps_nil ?_
   refine⟨j+1,?_,?_,rfl,⟨.inr (int_eq (by omega)),.inr (int_eq hZ.symm),trivial⟩,⟨.inr rfl,.inr rfl,.inr rfl,.inr rfl,.inr rfl,.inr rfl,.inr rfl,.inr rfl,.inr rfl,trivial⟩⟩
   ·first|omega|(dsimp only;omega)|(simp;omega)
   first|trivial|omega|(dsimp only;omega)|(simp;omega)
  have hZ : zOf c.piv c.vals.length (max (c.piv.length - (j + 1)) (cutIx c.piv v)) = zOf c.piv c.vals.length (max (c.piv.length - j) (cutIx c.piv v)) := by
   have:¬ cutIx c.piv v≤c.piv.length - 1 - j:=fun e=>by have:=hps.2 e;simp at hc49;omega
   rw [show max (c.piv.length - (j+1)) (cutIx c.piv v)=max (c.piv.length - j) (cutIx c.piv v) by omega]
  refine E_skip ?_
  refine E_region' (L:=[0,1,2]) rfl ?_
  refine xmv ?_
  refine p_ rfl xb5 ?_
  refine xas ?_
  refine EOps_nil ?_
  refine⟨j+1,?_,?_,rfl,⟨.inr (int_eq (by omega)),.inr (int_eq hZ.symm),trivial⟩,⟨.inr rfl,.inr rfl,.inr rfl,.inr rfl,.inr rfl,.inr rfl,.inr rfl,.inr rfl,.inr rfl,trivial⟩⟩
  ·first|omega|(dsimp only;omega)|(simp;omega)
  first|trivial|omega|(dsimp only;omega)|(simp;omega)
 have hjj : j = c.piv.length := by simp at hc39; omega
 refine E_exit ?_
 refine E_seq ?_
 refine E_region' (L:=[0,1,2,3]) rfl ?_
 refine xmv ?_
 refine xmv ?_
 refine xas ?_
 refine xas ?_
 refine EOps_nil ?_
 refine E_ret ?_
 rw [show cutIx c.piv v=min k (cutIx c.piv v) by omega]
 refine⟨_,[],rfl,rfl,?_,rfl⟩
 have e1:min k (min k (cutIx c.piv v))=min k (cutIx c.piv v):=by omega
 have e2:max (c.piv.length - j) (min k (cutIx c.piv v))=min k (cutIx c.piv v):=by omega
 simp [AV.ren,ren_sc,ren_ro,AC.ren,AC.ren.rens,ix,rv1,E.get,E.ev,E.cv,E.fill',E.fill,E.slotsOf,AV.ren,e1,e2]

set_option maxRecDepth 20000 in
set_option maxHeartbeats 2000000 in
theorem c_impl_IsSortedPiece (c : Crk) (v : Int) : EFn Tryz.prog 88 [.agg (crkC c), .c (.sc (.int .i64 v))] [] (fun r S => r = .c (.sc (.bool (isCrk c && isIn v (-999) 999 && srt c (aOf c.piv (cutIx c.piv v)) (zOf c.piv c.vals.length (cutIx c.piv v))))) ∧ S = []) := by
 refine E_fn Tryz.func88 rfl (Nat.le_of_ble_eq_true rfl) ?_
 refine E_seq ?_
 refine E_region' (L:=[0,1]) rfl ?_
 refine x_box rfl rfl rfl rfl rfl ?_
 refine xas ?_
 refine EOps_nil ?_
 refine E_seq ?_
 refine E_seq ?_
 refine e_tidy [0,1,2,4] ?_
 refine E_region' (L:=[0,1,2,3,4,5,6,7]) rfl ?_
 refine l_ rfl (L_load rfl (xb0 ty_49)) ?_
 refine x_call rfl rfl rfl rfl rfl ca_46 (c_impl_IsCracker c) ?_
 rintro r S ⟨rfl,rfl⟩
 refine p_ rfl (L_not rfl rfl) ?_
 refine xmv ?_
 refine EOps_split 10 (b:=_) rfl (fun hg10=>?_) (fun hg10=>?_)
 ·refine s_ rfl ?_
  refine s_ rfl ?_
  refine s_ rfl ?_
  refine p_ rfl (L_pick rfl rfl) ?_
  refine EOps_nil ?_
  refine E_cond rfl (fun hc14=>?_) (fun hc14=>?_)
  ·have hf : (isCrk c && isIn v (-999) 999) = false := by first | (simp at hg10; simp [hg10]; done) | (simp at hc14; simp [hc14])
   refine E_seq ?_
   refine E_region' (L:=[0]) rfl ?_
   refine xas ?_
   refine EOps_nil ?_
   refine E_ret ?_
   refine⟨_,[],rfl,rfl,bool_eq ?_,rfl⟩
   first|(simp [hf];done)|simp [hcr,hin]
  exact Bool.noConfusion (hc14:true=false)
 refine xmv ?_
 refine x_call rfl rfl rfl rfl rfl ca_169 (c_impl_isNumber v) ?_
 rintro r S ⟨rfl,rfl⟩
 refine p_ rfl (L_not rfl rfl) ?_
 refine p_ rfl (L_pick rfl rfl) ?_
 refine EOps_nil ?_
 refine E_cond rfl (fun hc14=>?_) (fun hc14=>?_)
 ·have hf : (isCrk c && isIn v (-999) 999) = false := by first | (simp at hg10; simp [hg10]; done) | (simp at hc14; simp [hc14])
  refine E_seq ?_
  refine E_region' (L:=[0]) rfl ?_
  refine xas ?_
  refine EOps_nil ?_
  refine E_ret ?_
  refine⟨_,[],rfl,rfl,bool_eq ?_,rfl⟩
  first|(simp [hf];done)|simp [hcr,hin]
 have hcr : isCrk c = true := by simpa using hg10
 have hin:isIn v (-999) 999=true:=by simpa using hc14
 have hl:=crk_lens hcr
 have hbd:=cut_bounds hcr (cutIx_le c.piv v)
 refine E_skip ?_
 refine E_seq ?_
 refine e_tidy [0,1,2,4,14] ?_
 refine E_region' (L:=[0,1,2,3,4,5,6,7]) rfl ?_
 refine l_ rfl (L_load rfl (xb0 ty_49)) ?_
 refine xmv ?_
 refine x_call rfl rfl rfl rfl rfl ca_170 (c_impl_pieceAt c v hcr) ?_
 rintro r S ⟨rfl,rfl⟩
 refine xmv ?_
 refine p_ rfl (L_extract rfl rfl) ?_
 refine p_ rfl (L_extract rfl rfl) ?_
 refine xas ?_
 refine xas ?_
 refine EOps_nil ?_
 refine E_seq ?_
 refine e_tidy [0,1,2,4,5,6,14] ?_
 refine E_region' (L:=[0,1,2,3,4]) rfl ?_
 refine l_ rfl (L_load rfl (xb0 ty_49)) ?_
 refine xmv ?_
 refine xmv ?_
 refine x_call rfl rfl rfl rfl rfl ca_167 (c_impl_sorted c _ _ ⟨hbd.1,hbd.2.1,hbd.2.2,hl.2.1,hl.1⟩) ?_
 rintro r S ⟨rfl,rfl⟩
 refine xas ?_
 refine EOps_nil ?_
 refine E_ret ?_
 refine⟨_,[],rfl,rfl,bool_eq ?_,rfl⟩
 first|(simp [hf];done)|simp [hcr,hin]

end Go.Proofs.YtlodlnbhjghjoaaGreat.E
