/- Walks through functions, by program out of the session's annotations. -/
import Derived.Test.YthlhmpknngidmaaGreatA06
import Derived.Test.YthlhmpknngidmaaGreatA09
import Derived.Test.YthlhmpknngidmaaGreatA14
import Derived.Test.YthlhmpknngidmaaGreatF4
namespace Go.Proofs.YthlhmpknngidmaaGreat.E
open Go Go.RowKit Go.Proofs
set_option linter.unusedVariables false
set_option linter.unusedSimpArgs false

def nest (ls:List (List Int)):List (List T):=ls.map fun l=>[.sl (ints l)]
theorem nest_len (ls:List (List Int)):(nest ls).length=ls.length:=by simp [nest]
theorem nest_at (ls : List (List Int)) (v : Value) : (nest ls ++ vrow [v])[ls.length]? = some [.sc v] := by
 rw [List.getElem?_append_right (by rw [nest_len];exact Nat.le_refl _),nest_len,Nat.sub_self];rfl
theorem nest_push (ls : List (List Int)) (v : Value) (a : List Int) : (nest ls ++ vrow [v]).set ls.length [.sl (ints a)] = nest (ls ++ [a]) := by
 rw [List.set_append_right _ _ (by rw [nest_len];exact Nat.le_refl _),nest_len,Nat.sub_self,nest,nest,List.map_append];rfl
theorem nest_get {ls : List (List Int)} {k : Nat} {l : List Int} (h : ls[k]? = some l) : (nest ls)[k]? = some [.sl (ints l)] := by
 rw [nest,List.getElem?_map,h];rfl
theorem nest_set (ls : List (List Int)) (k : Nat) (l : List Int) : (nest ls).set k [.sl (ints l)] = nest (ls.set k l) := by
 rw [nest,nest,List.map_set]
def totL : List (List Int) → Nat
 | []=>0
 | l::ls=>l.length+totL ls
theorem totL_app : ∀ (xs ys : List (List Int)), totL (xs ++ ys) = totL xs + totL ys
 | [],ys=>by simp [totL]
 | x::xs,ys=>by rw [List.cons_append,totL,totL_app xs ys,totL];omega
theorem totL_step {ls : List (List Int)} {k : Nat} {l : List Int} (h : ls[k]? = some l) : totL (ls.take (k + 1)) = totL (ls.take k) + l.length := by
 rw [List.take_add_one,h,totL_app];simp [totL]
theorem totL_take (ls : List (List Int)) (k : Nat) : totL (ls.take k) ≤ totL ls := by
 have:=totL_app (ls.take k) (ls.drop k)
 rw [List.take_append_drop] at this
 omega
/-- What is marked from q on, the first k lists. -/
def markN (q : Int) (ls : List (List Int)) : Nat → List (List Int)
 | 0=>[]
 | k+1=>markN q ls k++[seqF (q+totL (ls.take k)) (ls.getD k []).length]
theorem markN_len (q : Int) (ls : List (List Int)) : ∀ k, (markN q ls k).length = k
 | 0=>rfl
 | k+1=>by simp [markN,markN_len q ls k]
theorem markN_at (q : Int) (ls : List (List Int)) : ∀ (n k : Nat), k < n → (markN q ls n)[k]? = some (seqF (q + totL (ls.take k)) (ls.getD k []).length)
 | n + 1, k, h => by
  unfold markN
  rcases Nat.lt_or_ge k n with h'|h'
  ·rw [List.getElem?_append_left (by rw [markN_len];exact h')];exact markN_at q ls n k h'
  ·have : k = n := by omega
   subst this
   rw [List.getElem?_append_right (by rw [markN_len];omega),markN_len];simp
theorem szR_end {l : Int} {n m : Nat} (h : szR l n < 0) (hm : n ≤ m) : szR l m = -1 := by
 obtain⟨d,rfl⟩:∃ d,m=n+d:=⟨m - n,by omega⟩
 exact szR_t h
def seqB (q : Int) : Nat → List Bool
 | 0=>[]
 | n+1=>seqB q n++[((q+n) % 3 == 0)]
theorem seqB_len (q : Int) : ∀ n, (seqB q n).length = n
 | 0=>rfl
 | n+1=>by simp [seqB,seqB_len q n]
theorem seqB_at (q : Int) : ∀ (n k : Nat), k < n → (seqB q n)[k]? = some (((q + k) % 3 == 0))
 | n + 1, k, h => by
  unfold seqB
  rcases Nat.lt_or_ge k n with h'|h'
  ·rw [List.getElem?_append_left (by rw [seqB_len];exact h')];exact seqB_at q n k h'
  ·have : k = n := by omega
   subst this
   rw [List.getElem?_append_right (by rw [seqB_len];omega),seqB_len];simp

set_option maxRecDepth 20000 in
set_option maxHeartbeats 2000000 in
theorem c_laws_szIntSS (ls : List (List Int)) (left : Int) (hl : -1 ≤ left ∧ left ≤ 1048576) : EFn Tryz.prog 55 [.c (.ro (nest ls)), .c (.sc (.int .i64 left))] [] (fun r S => r = .c (.sc (.int .i64 (szR left (ls.length + totL ls)))) ∧ S = []) := by
 refine E_fn Tryz.func55 rfl (Nat.le_of_ble_eq_true rfl) ?_
 refine E_bound (t:=0) (rows:=nest ls) rfl fun hb=>?_
 rw [nest_len] at hb
 have hnl:=nest_len ls
 refine E_seq ?_
 refine E_region' (L:=[0]) rfl ?_
 refine xas ?_
 refine EOps_nil ?_
 refine E_seq ?_
 refine E_region' (L:=[0,1,2,3,4]) rfl ?_
 refine xmv ?_
 refine xmv ?_
 refine x_pure rfl rfl rfl (l_len rfl sl_23) ?_
 refine x_pure rfl rfl rfl xb5 ?_
 refine xas ?_
 refine EOps_nil ?_
 refine E_seq ?_
 refine E_seq ?_
 refine E_region' (L:=[0,1]) rfl ?_
 refine xmv ?_
 refine x_pure rfl rfl rfl (L_bin rfl rfl rfl rfl) ?_
 refine EOps_nil ?_
 refine E_cond rfl (fun hc11=>?_) (fun hc11=>?_)
 ·have h1 : szR left ls.length < 0 := by rw [szR, if_pos (by simpa [nest_len] using hc11)]; decide
  refine E_seq ?_
  refine E_region' (L:=[0]) rfl ?_
  refine xas ?_
  refine EOps_nil ?_
  refine E_ret ?_
  refine⟨_,[],rfl,rfl,int_eq ?_,rfl⟩
  rw [szR_end h1 (by omega)]
 ·have h1 : ¬ left - ls.length < 0 := by simpa [nest_len] using hc11
  have h0:szR left ls.length=left - ls.length:=by rw [szR,if_neg h1]
  refine E_skip ?_
  refine E_seq ?_
  refine E_seq ?_
  refine E_region' (L:=[0]) rfl ?_
  refine xas ?_
  refine EOps_nil ?_
  refine E_block ?_
  refine e_for (α:=Nat) [0,11] (fun k=>[(5,.c (.sc (.int .i64 (k)))),(1,.c (.sc (.int .i64 ((szR left (ls.length+totL (ls.take k)))))))]) (fun _=>_) (fun k=>k≤ls.length ∧ ¬ szR left (ls.length+totL (ls.take k))<0) (fun k=>ls.length - k) (0) ?_ (rfl) ⟨.inr rfl,.inr (int_eq (by simp [totL,nest_len,h0])),trivial⟩ ?_
  ·exact⟨Nat.zero_le _,by simp [totL,h0];omega⟩
  rintro k ⟨hk,hnn⟩
  refine E_seq ?_
  refine E_seq ?_
  refine E_region' (L:=[0,1,2,3]) rfl ?_
  refine xmv ?_
  refine xmv ?_
  refine x_pure rfl rfl rfl (l_len rfl sl_23) ?_
  refine x_pure rfl rfl rfl (L_bin rfl rfl rfl rfl) ?_
  refine EOps_nil ?_
  refine E_cond rfl (fun hc15=>?_) (fun hc15=>?_)
  ·have hk' : k < ls.length := by simpa [nest_len] using hc15
   obtain⟨l,hx⟩:=at_lt hk'
   have hnx:=nest_get hx
   have hst:=totL_step hx
   have htk:=totL_take ls (k+1)
   have hz:=szR_f l.length hnn
   rw [show ls.length+totL (ls.take k)+l.length=ls.length+totL (ls.take (k+1)) by omega] at hz
   refine E_skip ?_
   refine E_seq ?_
   refine E_block ?_
   refine E_seq ?_
   refine E_region' (L:=[0,1,2,3,4,5,6]) rfl ?_
   refine xmv ?_
   refine xmv ?_
   refine x_pure rfl rfl rfl (L_index rfl rfl (by first|exact i_ro sl_23 ty_22|exact i_sl sl_23 ty_22)) ?_
   refine x_light rfl rfl rfl (L_load rfl (xb0 ty_22)) ?_
   refine xmv ?_
   refine x_call rfl rfl rfl rfl rfl ca_54 (c_laws_szIntS l (szR left (ls.length+totL (ls.take k))) (szR_rng hl)) ?_
   rintro r S ⟨rfl,rfl⟩
   rw [hz]
   refine xas ?_
   refine EOps_nil ?_
   refine E_seq ?_
   refine E_region' (L:=[0,1]) rfl ?_
   refine xmv ?_
   refine x_pure rfl rfl rfl (L_bin rfl rfl rfl rfl) ?_
   refine EOps_nil ?_
   refine E_cond rfl (fun hc25=>?_) (fun hc25=>?_)
   ·have h2 : szR left (ls.length + totL (ls.take (k + 1))) < 0 := by simpa using hc25
    refine E_seq ?_
    refine E_region' (L:=[0]) rfl ?_
    refine xas ?_
    refine EOps_nil ?_
    refine E_ret ?_
    refine⟨_,[],rfl,rfl,int_eq ?_,rfl⟩
    rw [szR_end h2 (by omega)]
   ·have h2 : ¬ szR left (ls.length + totL (ls.take (k + 1))) < 0 := by simpa using hc25
    refine E_skip ?_
    refine E_region' (L:=[0,1,2]) rfl ?_
    refine xmv ?_
    refine x_pure rfl rfl rfl xb2 ?_
    refine xas ?_
    refine EOps_nil ?_
    refine⟨k+1,?_,?_,rfl,⟨.inr rfl,.inr (int_eq (by omega)),trivial⟩,⟨.inr rfl,.inr rfl,trivial⟩⟩
    ·first|omega|(dsimp only;omega)|(simp;omega)
    ·exact⟨by omega,h2⟩
  ·have hk' : ls.length ≤ k := by simpa [nest_len] using hc15
   refine E_exit ?_
   refine E_seq ?_
   refine E_region' (L:=[0,1]) rfl ?_
   refine xmv ?_
   refine xas ?_
   refine EOps_nil ?_
   refine E_ret ?_
   refine⟨_,[],rfl,rfl,int_eq ?_,rfl⟩
   rw [List.take_of_length_le hk']

set_option maxRecDepth 20000 in
set_option maxHeartbeats 2000000 in
theorem c_laws_toIntSS (ls : List (List Int)) (hn : ls.length ≤ 1048576 ∧ totL ls ≤ 1048576) : EFn Tryz.prog 61 [.c (.ro (nest ls))] [] (fun r S => r = .c (.sl 0 0 ls.length ls.length) ∧ S = [.row 22 1 (nest ls)]) := by
 refine E_fn Tryz.func61 rfl (Nat.le_of_ble_eq_true rfl) ?_
 refine E_G (n:=0) rfl ?_
 have hnl:=nest_len ls
 refine G_seq ?_
 refine G_region' (L:=[0]) rfl ?_
 refine xas ?_
 refine EOps_nil ?_
 refine G_seq ?_
 refine G_region' (L:=[0,1,2,3]) rfl ?_
 refine xmv ?_
 refine x_pure rfl rfl rfl (l_len rfl sl_23) ?_
 refine EOps_go rfl rfl (Heavy.op (H_make rfl rfl (by decide) rfl rfl sl_23 ty_22 by_22 za_22 ⟨rfl,by decide⟩ (by simp [nest_len];omega) ?_))
 refine xas ?_
 refine EOps_nil ?_
 refine G_seq ?_
 refine G_seq ?_
 refine G_region' (L:=[0]) rfl ?_
 refine xas ?_
 refine EOps_nil ?_
 refine G_block ?_
 refine g_forD (α:=Nat) [0,2,3] (fun k=>[(4,.c (.sc (.int .i64 (k))))]) (fun k=>[.row 22 1 (fillR (nest ls) [.sl []] k)]) (fun k=>k≤ls.length) (fun k=>ls.length - k) (0) ?_ (by rw [fill_zero];simp [zT]) ⟨.inr rfl,trivial⟩ ?_
 ·simp
 rintro k hk
 refine G_seq ?_
 refine G_seq ?_
 refine G_region' (L:=[0,1,2,3]) rfl ?_
 refine xmv ?_
 refine xmv ?_
 refine x_pure rfl rfl rfl (l_len rfl sl_23) ?_
 refine x_pure rfl rfl rfl (L_bin rfl rfl rfl rfl) ?_
 refine EOps_nil ?_
 refine G_cond rfl (fun hc11=>?_) (fun hc11=>?_)
 ·have hk' : k < ls.length := by simpa [nest_len] using hc11
  obtain⟨l,hx⟩:=at_lt hk'
  have hnx:=nest_get hx
  have hfl:(fillR (nest ls) [.sl []] k).length=(nest ls).length:=fill_len (by omega)
  have hfa:(fillR (nest ls) [.sl []] k)[k]? = some [.sl []]:=fill_at (by omega)
  refine G_skip ?_
  refine G_seq ?_
  refine G_block ?_
  refine (X_focus 0 k 0 rfl hfa rfl).G fun z=>?_
  obtain⟨⟨v0,e0,m0⟩,hz1,hz2⟩:=z
  dsimp only
  have hf2:((fillR (nest ls) [.sl []] k).set k ([T.sl []].set 0 (.sc v0))).length=(nest ls).length:=by rw [List.length_set];exact hfl
  have ha2:((fillR (nest ls) [.sl []] k).set k ([T.sl []].set 0 (.sc v0)))[k]? = some ([T.sl []].set 0 (.sc v0)):=setR_at (by omega)
  refine G_region' (L:=[0,1,2,3,4,5,6,7,8]) rfl ?_
  refine xmv ?_
  refine xmv ?_
  refine xmv ?_
  refine xmv ?_
  refine x_pure rfl rfl rfl (L_index rfl rfl (by first|exact i_ro sl_23 ty_22|exact i_sl sl_23 ty_22)) ?_
  refine x_light rfl rfl rfl (L_load rfl (xb0 ty_22)) ?_
  refine x_call rfl rfl rfl rfl rfl ca_21 (c_laws_toIntS l (by have:=totL_step hx;have:=totL_take ls (k+1);omega)) ?_
  rintro r S ⟨rfl,rfl⟩
  refine x_pure rfl rfl rfl (L_index rfl rfl (by first|exact i_ro sl_23 ty_22|exact i_sl sl_23 ty_22)) ?_
  refine (X_pin 20 rfl).X fun v=>?_
  refine EOps_go rfl rfl (EOp_store rfl rfl rfl (xb1 ty_22) ?_)
  refine EOps_nil ?_
  refine (X_absorb (cs:=[.sc v]) 0 k 0 4 3 rfl (by simp only [Nat.zero_add,Int.toNat_natCast];exact setR_at (by omega)) rfl rfl rfl (ints_len _) (by decide) rfl).G fun _=>?_
  refine G_region' (L:=[0,1,2]) rfl ?_
  refine xmv ?_
  refine x_pure rfl rfl rfl xb2 ?_
  refine xas ?_
  refine EOps_nil ?_
  refine⟨[0],rfl,k+1,?_,?_,by
 show [Res.row 22 1 _]=[Res.row 22 1 (fillR (nest ls) [.sl []] (k+1))]
 simp only [Nat.zero_add,Int.toNat_natCast,List.set_set]
 rw [← fill_set hnx]; rfl, ⟨.inr rfl, trivial⟩, ⟨.inr rfl, .inr rfl, .inr rfl, trivial⟩⟩
  ·first|omega|(dsimp only;omega)|(simp;omega)
  ·first|trivial|omega|(dsimp only;omega)|(simp;omega)
 ·have hk' : ls.length ≤ k := by simpa [nest_len] using hc11
  refine G_exit ?_
  refine G_seq ?_
  refine G_region' (L:=[0,1]) rfl ?_
  refine xmv ?_
  refine xas ?_
  refine EOps_nil ?_
  refine G_ret ?_
  refine⟨_,[0],rfl,rfl,?_,?_⟩
  ·simp [AV.ren,ren_sc,ren_ro,AC.ren,AC.ren.rens,ix,rv1,E.get,E.ev,E.cv,E.fill',E.fill,E.slotsOf,nest_len]
  ·simp [reR,Res.ren,fill_full (rows:=nest ls) (k:=k) (by omega)]

set_option maxRecDepth 20000 in
set_option maxHeartbeats 2000000 in
theorem c_laws_eqIntSS (xs ys : List (List Int)) : EFn Tryz.prog 23 [.c (.ro (nest xs)), .c (.ro (nest ys))] [] (fun r S => r = .c (.sc (.bool (decide (xs = ys)))) ∧ S = []) := by
 refine E_fn Tryz.func23 rfl (Nat.le_of_ble_eq_true rfl) ?_
 refine E_bound (t:=0) (rows:=nest xs) rfl fun hb=>?_
 rw [nest_len] at hb
 refine E_seq ?_
 refine E_region' (L:=[0]) rfl ?_
 refine xas ?_
 refine EOps_nil ?_
 refine E_seq ?_
 refine E_seq ?_
 refine E_region' (L:=[0,1,2,3,4]) rfl ?_
 refine xmv ?_
 refine x_pure rfl rfl rfl (l_len rfl sl_23) ?_
 refine xmv ?_
 refine x_pure rfl rfl rfl (l_len rfl sl_23) ?_
 refine x_pure rfl rfl rfl (L_bin rfl rfl rfl rfl) ?_
 refine EOps_nil ?_
 refine E_cond rfl (fun hc10=>?_) (fun hc10=>?_)
 ·have hne : xs ≠ ys := fun e => by subst e; simp at hc10
  refine E_seq ?_
  refine E_region' (L:=[0]) rfl ?_
  refine xas ?_
  refine EOps_nil ?_
  refine E_ret ?_
  refine⟨_,[],rfl,rfl,?_,rfl⟩
  simp [AV.ren,ren_sc,ren_ro,AC.ren,AC.ren.rens,ix,rv1,E.get,E.ev,E.cv,E.fill',E.fill,E.slotsOf,hne]
 ·have hlen : xs.length = ys.length := by simp [nest_len] at hc10; omega
  refine E_skip ?_
  refine E_seq ?_
  refine E_seq ?_
  refine E_region' (L:=[0]) rfl ?_
  refine xas ?_
  refine EOps_nil ?_
  refine E_block ?_
  refine e_for (α:=Nat) [0,1,10] (fun k=>[(5,.c (.sc (.int .i64 (k))))]) (fun _=>_) (fun k=>k≤xs.length∧xs.take k=ys.take k) (fun k=>xs.length - k) (0) ?_ (rfl) ⟨.inr rfl,trivial⟩ ?_
  ·simp
  rintro k ⟨hk,htk⟩
  refine E_seq ?_
  refine E_seq ?_
  refine E_region' (L:=[0,1,2,3]) rfl ?_
  refine xmv ?_
  refine xmv ?_
  refine x_pure rfl rfl rfl (l_len rfl sl_23) ?_
  refine x_pure rfl rfl rfl (L_bin rfl rfl rfl rfl) ?_
  refine EOps_nil ?_
  refine E_cond rfl (fun hc14=>?_) (fun hc14=>?_)
  ·have hc14' : k < xs.length := by simpa [nest_len] using hc14
   obtain⟨x,hx⟩:=at_lt hc14'
   obtain⟨y,hy⟩:∃ y,ys[k]? = some y:=⟨_,List.getElem?_eq_getElem (hlen ▸ hc14')⟩
   have hnx:=nest_get hx
   have hny:=nest_get hy
   refine E_skip ?_
   refine E_seq ?_
   refine E_block ?_
   refine E_seq ?_
   refine E_drawT mixed ?_
   refine t_old 0 rfl rfl rfl (L_move rfl) ?_
   refine t_old 1 rfl rfl rfl (L_move rfl) ?_
   refine t_old 2 rfl rfl rfl (L_index rfl rfl (by first|exact i_ro sl_23 ty_22|exact i_sl sl_23 ty_22)) ?_
   refine t_light 3 rfl rfl rfl (L_load rfl (xb0 ty_22)) ?_
   refine t_old 4 rfl rfl rfl (L_move rfl) ?_
   refine t_old 5 rfl rfl rfl (L_move rfl) ?_
   refine t_old 6 rfl rfl rfl (L_index rfl rfl (by first|exact i_ro sl_23 ty_22|exact i_sl sl_23 ty_22)) ?_
   refine t_light 7 rfl rfl rfl (L_load rfl (xb0 ty_22)) ?_
   refine t_call 8 rfl rfl rfl rfl rfl ca_25 (c_laws_eqIntS x y) ?_
   rintro r S ⟨rfl,rfl⟩
   refine t_old 9 rfl rfl rfl (L_not rfl rfl) ?_
   refine T_done (by kernel_rfl) ?_
   refine E_cond rfl (fun hc26=>?_) (fun hc26=>?_)
   ·have hne : xs ≠ ys := fun e => by subst e; rw [hx] at hy; cases hy; simp at hc26
    refine E_seq ?_
    refine E_region' (L:=[0]) rfl ?_
    refine xas ?_
    refine EOps_nil ?_
    refine E_ret ?_
    refine⟨_,[],rfl,rfl,?_,rfl⟩
    simp [AV.ren,ren_sc,ren_ro,AC.ren,AC.ren.rens,ix,rv1,E.get,E.ev,E.cv,E.fill',E.fill,E.slotsOf,hne]
   ·have hxy : x = y := by simpa using hc26
    refine E_skip ?_
    refine E_region' (L:=[0,1,2]) rfl ?_
    refine xmv ?_
    refine x_pure rfl rfl rfl xb2 ?_
    refine xas ?_
    refine EOps_nil ?_
    refine⟨k+1,?_,?_,rfl,⟨.inr rfl,trivial⟩,⟨.inr rfl,.inr rfl,.inr rfl,trivial⟩⟩
    ·first|omega|(dsimp only;omega)|(simp;omega)
    ·exact⟨by omega,by rw [List.take_add_one,List.take_add_one,htk,hx,hy,hxy]⟩
  ·have hk' : xs.length ≤ k := by simpa [nest_len] using hc14
   have heq:xs=ys:=by rw [List.take_of_length_le hk',List.take_of_length_le (by omega)] at htk;exact htk
   refine E_exit ?_
   refine E_seq ?_
   refine E_region' (L:=[0]) rfl ?_
   refine xas ?_
   refine EOps_nil ?_
   refine E_ret ?_
   refine⟨_,[],rfl,rfl,?_,rfl⟩
   simp [AV.ren,ren_sc,ren_ro,AC.ren,AC.ren.rens,ix,rv1,E.get,E.ev,E.cv,E.fill',E.fill,E.slotsOf,heq]

set_option maxRecDepth 20000 in
set_option maxHeartbeats 2000000 in
theorem c_laws_heldIntSS (q : Int) (ls : List (List Int)) (hb : ls.length ≤ 1048576 ∧ totL ls ≤ 1048576) (hq : 0 ≤ q ∧ q ≤ 1000000000000) : EFn Tryz.prog 29 [.c (.ro (nest (markN q ls ls.length))), .c (.sc (.int .i64 q))] [] (fun r S => r = .c (.sc (.int .i64 (q + totL ls))) ∧ S = []) := by
 refine E_fn Tryz.func29 rfl (Nat.le_of_ble_eq_true rfl) ?_
 refine E_seq ?_
 refine E_region' (L:=[0]) rfl ?_
 refine xas ?_
 refine EOps_nil ?_
 refine E_seq ?_
 refine E_seq ?_
 refine E_region' (L:=[0]) rfl ?_
 refine xas ?_
 refine EOps_nil ?_
 refine E_block ?_
 refine e_for (α:=Nat) [0] (fun k=>[(5,.c (.sc (.int .i64 (k)))),(1,.c (.sc (.int .i64 ((q+totL (ls.take k))))))]) (fun _=>_) (fun k=>k≤ls.length) (fun k=>ls.length - k) (0) ?_ (rfl) ⟨.inr rfl,.inr (int_eq (by simp [totL])),trivial⟩ ?_
 ·simp
 rintro k hk
 have htk:=totL_take ls k
 refine E_seq ?_
 refine E_seq ?_
 refine E_region' (L:=[0,1,2,3]) rfl ?_
 refine xmv ?_
 refine xmv ?_
 refine x_pure rfl rfl rfl (l_len rfl sl_23) ?_
 refine x_pure rfl rfl rfl (L_bin rfl rfl rfl rfl) ?_
 refine EOps_nil ?_
 refine E_cond rfl (fun hc9=>?_) (fun hc9=>?_)
 ·have hk' : k < ls.length := by simpa [nest_len, markN_len] using hc9
  obtain⟨l,hl⟩:=at_lt hk'
  have hgd:ls.getD k []=l:=by rw [List.getD_eq_getElem?_getD,hl];rfl
  have hat:=nest_get (markN_at q ls ls.length k hk')
  rw [hgd] at hat
  have hst:=totL_step hl
  have htk1:=totL_take ls (k+1)
  refine E_skip ?_
  refine E_seq ?_
  refine E_block ?_
  refine E_seq ?_
  refine E_region' (L:=[0,1,2,3,4,5,6]) rfl ?_
  refine xmv ?_
  refine xmv ?_
  refine x_pure rfl rfl rfl (L_index rfl rfl (by first|exact i_ro sl_23 ty_22|exact i_sl sl_23 ty_22)) ?_
  refine x_light rfl rfl rfl (L_load rfl (xb0 ty_22)) ?_
  refine xmv ?_
  refine x_call rfl rfl rfl rfl rfl ca_71 (c_laws_heldIntS l.length (q+totL (ls.take k)) (by omega) (by omega)) ?_
  rintro r S ⟨rfl,rfl⟩
  refine xas ?_
  refine EOps_nil ?_
  refine E_seq ?_
  refine E_region' (L:=[0,1]) rfl ?_
  refine xmv ?_
  refine x_pure rfl rfl rfl (L_bin rfl rfl rfl rfl) ?_
  refine EOps_nil ?_
  refine E_cond rfl (fun hc19=>?_) (fun hc19=>?_)
  ·simp at hc19;omega
  ·refine E_skip ?_
   refine E_region' (L:=[0,1,2]) rfl ?_
   refine xmv ?_
   refine x_pure rfl rfl rfl xb2 ?_
   refine xas ?_
   refine EOps_nil ?_
   refine⟨k+1,?_,?_,rfl,⟨.inr rfl,.inr (int_eq (by rw [totL_step hl];omega)),trivial⟩,⟨.inr rfl,trivial⟩⟩
   ·first|omega|(dsimp only;omega)|(simp;omega)
   ·first|trivial|omega|(dsimp only;omega)|(simp;omega)
 ·have hk1 : ls.length ≤ k := by simpa [nest_len, markN_len] using hc9
  have hk0:k=ls.length:=by omega
  refine E_exit ?_
  refine E_seq ?_
  refine E_region' (L:=[0,1]) rfl ?_
  refine xmv ?_
  refine xas ?_
  refine EOps_nil ?_
  refine E_ret ?_
  subst hk0
  refine⟨_,[],rfl,rfl,?_,rfl⟩
  simp [AV.ren,ren_sc,ren_ro,AC.ren,AC.ren.rens,ix,rv1,E.get,E.ev,E.cv,E.fill',E.fill,E.slotsOf]

set_option maxRecDepth 20000 in
set_option maxHeartbeats 2000000 in
theorem c_laws_markIntSK (e m n : Nat) (q : Int) (xs : List Int) (hn : xs.length = n) (hb : n ≤ 1048576) (hq : 0 ≤ q ∧ q ≤ 1099511627776) (hm : ∀ r ∈ ints xs, r.length = m) : EFn Tryz.prog 27 [.c (.sl 0 0 n n), .c (.sc (.int .i64 q))] [.row e m (ints xs)] (fun r S => r = .c (.sc (.int .i64 (q + n))) ∧ S = [.row e m (ints (seqF q n))]) := by
 refine E_fn Tryz.func27 rfl (Nat.le_of_ble_eq_true rfl) ?_
 refine E_seq ?_
 refine E_region' (L:=[0]) rfl ?_
 refine xas ?_
 refine EOps_nil ?_
 refine E_seq ?_
 refine E_seq ?_
 refine E_region' (L:=[0]) rfl ?_
 refine xas ?_
 refine EOps_nil ?_
 refine E_block ?_
 refine e_for (α:=Nat) [0,4] (fun k=>[(5,.c (.sc (.int .i64 (k)))),(1,.c (.sc (.int .i64 ((q+k)))))]) (fun k=>[.row e m (ints (seqF q k++xs.drop k))]) (fun k=>k≤n) (fun k=>n - k) (0) ?_ (rfl) ⟨.inr rfl,.inr (int_eq (by simp)),trivial⟩ ?_
 ·simp
 rintro k hk
 have hlk:(ints (seqF q k++xs.drop k)).length=n:=by simp [ints_len,seqF_len];omega
 refine E_seq ?_
 refine E_seq ?_
 refine E_region' (L:=[0,1,2,3]) rfl ?_
 refine xmv ?_
 refine xmv ?_
 refine x_pure rfl rfl rfl (l_len rfl sl_22) ?_
 refine x_pure rfl rfl rfl (L_bin rfl rfl rfl rfl) ?_
 refine EOps_nil ?_
 refine E_cond rfl (fun hc9=>?_) (fun hc9=>?_)
 ·have hk0 : k < n := by simpa using hc9
  have hk':k<xs.length:=by omega
  obtain⟨x,hx,hx',hset⟩:=over_at (seqF_len q k) hk'
  obtain rfl:1=m:=hm [.sc (.int .i64 x)] (List.mem_of_getElem? (ints_at hx))
  refine E_skip ?_
  refine E_seq ?_
  refine E_block ?_
  refine E_seq ?_
  refine E_region' (L:=[0,1,2,3,4]) rfl ?_
  refine xmv ?_
  refine xmv ?_
  refine xmv ?_
  refine x_pure rfl rfl rfl (L_index rfl rfl (by first|exact i_ro sl_22 ty_3|exact i_sl sl_22 ty_3)) ?_
  refine EOps_go rfl rfl (EOp_store rfl rfl rfl (xb1 ty_3) ?_)
  refine EOps_nil ?_
  refine E_region' (L:=[0,1,2]) rfl ?_
  refine xmv ?_
  refine x_pure rfl rfl rfl xb2 ?_
  refine xas ?_
  refine EOps_nil ?_
  refine E_region' (L:=[0,1,2]) rfl ?_
  refine xmv ?_
  refine x_pure rfl rfl rfl xb2 ?_
  refine xas ?_
  refine EOps_nil ?_
  refine⟨k+1,?_,?_,by
 have hs:=hset (q+k)
 show [Res.row e 1 _]=[Res.row e 1 (ints ((seqF q k++[q+(k:Int)])++xs.drop (k+1)))]
 rw [← hs, ← ints_set]; simp [splice], ⟨.inr rfl, .inr (int_eq (by omega)), trivial⟩, ⟨.inr rfl, .inr rfl, trivial⟩⟩
  ·first|omega|(dsimp only;omega)|(simp;omega)
  ·first|trivial|omega|(dsimp only;omega)|(simp;omega)
 ·have hk1 : n ≤ k := by simpa using hc9
  have hk0:k=n:=by omega
  refine E_exit ?_
  refine E_seq ?_
  refine E_region' (L:=[0,1]) rfl ?_
  refine xmv ?_
  refine xas ?_
  refine EOps_nil ?_
  refine E_ret ?_
  subst hk0
  refine⟨_,[],rfl,rfl,rfl,?_⟩
  have hd:xs.drop k=[]:=List.drop_of_length_le (by omega)
  have hfin:seqF q k++xs.drop k=seqF q k:=by rw [hd,List.append_nil]
  rw [hfin];rfl

set_option maxRecDepth 20000 in
set_option maxHeartbeats 2000000 in
theorem c_laws_markIntSS (e n : Nat) (q : Int) (ls : List (List Int)) (hn : ls.length = n) (hb : ls.length ≤ 1048576 ∧ totL ls ≤ 1048576) (hq : 0 ≤ q ∧ q ≤ 1000000000000) : EFn Tryz.prog 28 [.c (.sl 0 0 n n), .c (.sc (.int .i64 q))] [.row e 1 (nest ls)] (fun r S => r = .c (.sc (.int .i64 (q + totL ls))) ∧ S = [.row e 1 (nest (markN q ls n))]) := by
 refine E_fn Tryz.func28 rfl (Nat.le_of_ble_eq_true rfl) ?_
 refine E_G (n:=1) rfl ?_
 refine G_seq ?_
 refine G_region' (L:=[0]) rfl ?_
 refine xas ?_
 refine EOps_nil ?_
 refine G_seq ?_
 refine G_seq ?_
 refine G_region' (L:=[0]) rfl ?_
 refine xas ?_
 refine EOps_nil ?_
 refine G_block ?_
 refine g_forD (α:=Nat) [0,4] (fun k=>[(5,.c (.sc (.int .i64 (k)))),(1,.c (.sc (.int .i64 ((q+totL (ls.take k))))))]) (fun k=>[.row e 1 (nest (markN q ls k++ls.drop k))]) (fun k=>k≤n) (fun k=>n - k) (0) ?_ (rfl) ⟨.inr rfl,.inr (int_eq (by simp [totL])),trivial⟩ ?_
 ·simp
 rintro k hk
 have htk:=totL_take ls k
 have hlk:(nest (markN q ls k++ls.drop k)).length=n:=by simp [nest_len,markN_len];omega
 refine G_seq ?_
 refine G_seq ?_
 refine G_region' (L:=[0,1,2,3]) rfl ?_
 refine xmv ?_
 refine xmv ?_
 refine x_pure rfl rfl rfl (l_len rfl sl_23) ?_
 refine x_pure rfl rfl rfl (L_bin rfl rfl rfl rfl) ?_
 refine EOps_nil ?_
 refine G_cond rfl (fun hc9=>?_) (fun hc9=>?_)
 ·have hk0 : k < n := by simpa using hc9
  have hk':k<ls.length:=by omega
  obtain⟨l,hx,hx',hset⟩:=over_at (markN_len q ls k) hk'
  have hgd:ls.getD k []=l:=by rw [List.getD_eq_getElem?_getD,hx];rfl
  have hst:=totL_step hx
  have htk1:=totL_take ls (k+1)
  refine G_skip ?_
  refine G_seq ?_
  refine G_block ?_
  refine (X_focus 0 k 0 rfl (nest_get hx') rfl).G fun z=>?_
  obtain⟨⟨v,e1,m1⟩,hm0,hm1⟩:=z
  simp only [List.set_cons_zero,ints_len,List.length_cons,List.length_nil,Nat.zero_add]
  have hl2:((nest (markN q ls k++ls.drop k)).set k [.sc v]).length=n:=by rw [List.length_set];exact hlk
  have hat:((nest (markN q ls k++ls.drop k)).set k [.sc v])[k]? = some [.sc v]:=List.getElem?_set_self (by omega)
  refine G_region' (L:=[0,1,2,3,4,5,6]) rfl ?_
  refine xmv ?_
  refine xmv ?_
  refine x_pure rfl rfl rfl (L_index rfl rfl (by first|exact i_ro sl_23 ty_22|exact i_sl sl_23 ty_22)) ?_
  refine x_light rfl rfl rfl (L_load rfl (xb0 ty_22)) ?_
  refine (X_unpin 15 2 rfl rfl).X fun _=>?_
  refine xmv ?_
  refine x_frame [1] rfl rfl rfl rfl rfl ca_27 rfl (c_laws_markIntSK e1 m1 l.length (q+totL (ls.take k)) l rfl (by omega) (by omega) hm1) ?_
  rintro r S ⟨r0,S0,⟨rfl,rfl⟩,rfl,rfl⟩
  refine xas ?_
  refine EOps_nil ?_
  refine (X_absorb 0 k 0 2 1 rfl hat rfl rfl rfl (by rw [ints_len,seqF_len]) (by decide) rfl).G fun _=>?_
  refine G_region' (L:=[0,1,2]) rfl ?_
  refine xmv ?_
  refine x_pure rfl rfl rfl xb2 ?_
  refine xas ?_
  refine EOps_nil ?_
  refine⟨[],rfl,k+1,?_,?_,by
 have hs:=hset (seqF (q+totL (ls.take k)) l.length)
 show [Res.row e 1 _]=[Res.row e 1 (nest ((markN q ls k++[seqF (q+totL (ls.take k)) (ls.getD k []).length])++ls.drop (k+1)))]
 rw [hgd, ← hs, ← nest_set, List.set_set]; rfl, ⟨.inr rfl, .inr (int_eq (by rw [totL_step hx]; omega)), trivial⟩, ⟨.inr rfl, .inr rfl, trivial⟩⟩
  ·first|omega|(dsimp only;omega)|(simp;omega)
  ·first|trivial|omega|(dsimp only;omega)|(simp;omega)
 ·have hk1 : n ≤ k := by simpa using hc9
  have hk0:k=n:=by omega
  refine G_exit ?_
  refine G_seq ?_
  refine G_region' (L:=[0,1]) rfl ?_
  refine xmv ?_
  refine xas ?_
  refine EOps_nil ?_
  refine G_ret ?_
  subst hk0
  refine⟨_,[],rfl,rfl,?_,?_⟩
  ·rw [List.take_of_length_le (by omega)];rfl
  have hd:ls.drop k=[]:=List.drop_of_length_le (by omega)
  have hfin:markN q ls k++ls.drop k=markN q ls k:=by rw [hd,List.append_nil]
  rw [hfin];rfl

set_option maxRecDepth 20000 in
set_option maxHeartbeats 2000000 in
theorem c_laws_szBoolS (xs : List Bool) (left : Int) (hl : -1 ≤ left ∧ left ≤ 1048576) : EFn Tryz.prog 57 [.c (.ro (bools xs)), .c (.sc (.int .i64 left))] [] (fun r S => r = .c (.sc (.int .i64 (szR left xs.length))) ∧ S = []) := by
 refine E_fn Tryz.func57 rfl (Nat.le_of_ble_eq_true rfl) ?_
 refine E_bound (t:=0) (rows:=bools xs) rfl fun hb=>?_
 rw [bools_len] at hb
 refine E_seq ?_
 refine E_region' (L:=[0]) rfl ?_
 refine xas ?_
 refine EOps_nil ?_
 refine E_seq ?_
 refine E_region' (L:=[0,1,2,3,4]) rfl ?_
 refine xmv ?_
 refine xmv ?_
 refine x_pure rfl rfl rfl (l_len rfl sl_25) ?_
 refine x_pure rfl rfl rfl xb5 ?_
 refine xas ?_
 refine EOps_nil ?_
 refine E_seq ?_
 refine E_seq ?_
 refine E_region' (L:=[0,1]) rfl ?_
 refine xmv ?_
 refine x_pure rfl rfl rfl (L_bin rfl rfl rfl rfl) ?_
 refine EOps_nil ?_
 refine E_cond rfl (fun hc10=>?_) (fun hc10=>?_)
 ·have h1 : left - xs.length < 0 := by simpa [bools_len] using hc10
  refine E_seq ?_
  refine E_region' (L:=[0]) rfl ?_
  refine xas ?_
  refine EOps_nil ?_
  refine E_ret ?_
  refine⟨_,[],rfl,rfl,int_eq ?_,rfl⟩
  rw [szR,if_pos h1]
 ·have h1 : ¬ left - xs.length < 0 := by simpa [bools_len] using hc10
  refine E_skip ?_
  refine E_seq ?_
  refine E_region' (L:=[0,1]) rfl ?_
  refine xmv ?_
  refine xas ?_
  refine EOps_nil ?_
  refine E_ret ?_
  refine⟨_,[],rfl,rfl,int_eq ?_,rfl⟩
  rw [szR,if_neg h1,← bools_len]

set_option maxRecDepth 20000 in
set_option maxHeartbeats 2000000 in
theorem c_laws_toBoolS (xs : List Bool) (hn : xs.length ≤ 1048576) : EFn Tryz.prog 63 [.c (.ro (bools xs))] [] (fun r S => r = .c (.sl 0 0 xs.length xs.length) ∧ S = [.row 4 1 (bools xs)]) := by
 refine E_fn Tryz.func63 rfl (Nat.le_of_ble_eq_true rfl) ?_
 have hnl:=bools_len xs
 refine E_seq ?_
 refine E_region' (L:=[0]) rfl ?_
 refine xas ?_
 refine EOps_nil ?_
 refine E_seq ?_
 refine E_region' (L:=[0,1,2,3]) rfl ?_
 refine xmv ?_
 refine x_pure rfl rfl rfl (l_len rfl sl_25) ?_
 refine EOps_go rfl rfl (Heavy.op (H_make rfl rfl (by decide) rfl rfl sl_25 ty_4 by_4 za_4 ⟨rfl,by decide⟩ (by simp [bools_len];omega) ?_))
 refine xas ?_
 refine EOps_nil ?_
 refine E_seq ?_
 refine E_seq ?_
 refine E_region' (L:=[0]) rfl ?_
 refine xas ?_
 refine EOps_nil ?_
 refine E_block ?_
 refine e_for (α:=Nat) [0,2,3] (fun k=>[(4,.c (.sc (.int .i64 (k))))]) (fun k=>[.row 4 1 (fillR (bools xs) [.sc (.bool false)] k)]) (fun k=>k≤xs.length) (fun k=>xs.length - k) (0) ?_ (by rw [fill_zero];simp [zT]) ⟨.inr rfl,trivial⟩ ?_
 ·simp
 rintro k hk
 refine E_seq ?_
 refine E_seq ?_
 refine E_region' (L:=[0,1,2,3]) rfl ?_
 refine xmv ?_
 refine xmv ?_
 refine x_pure rfl rfl rfl (l_len rfl sl_25) ?_
 refine x_pure rfl rfl rfl (L_bin rfl rfl rfl rfl) ?_
 refine EOps_nil ?_
 refine E_cond rfl (fun hc11=>?_) (fun hc11=>?_)
 ·have hc11' : k < (xs).length := by simpa [ints_len, bools_len, pairs_len, quads_len, quints_len] using hc11
  obtain⟨x,hx⟩:∃ x,(xs)[k]? = some x:=⟨_,List.getElem?_eq_getElem hc11'⟩
  have hbx:=bools_at hx
  have hfl:(fillR (bools xs) [.sc (.bool false)] k).length=(bools xs).length:=fill_len (by omega)
  have hfa:(fillR (bools xs) [.sc (.bool false)] k)[k]? = some [.sc (.bool false)]:=fill_at (by omega)
  refine E_skip ?_
  refine E_seq ?_
  refine E_block ?_
  refine E_region' (L:=[0,1,2,3,4,5,6,7]) rfl ?_
  refine xmv ?_
  refine xmv ?_
  refine xmv ?_
  refine xmv ?_
  refine x_pure rfl rfl rfl (L_index rfl rfl (by first|exact i_ro sl_25 ty_4|exact i_sl sl_25 ty_4)) ?_
  refine x_light rfl rfl rfl (L_load rfl (xb0 ty_4)) ?_
  refine x_pure rfl rfl rfl (L_index rfl rfl (by first|exact i_ro sl_25 ty_4|exact i_sl sl_25 ty_4)) ?_
  refine EOps_go rfl rfl (EOp_store rfl rfl rfl (xb1 ty_4) ?_)
  refine EOps_nil ?_
  refine E_region' (L:=[0,1,2]) rfl ?_
  refine xmv ?_
  refine x_pure rfl rfl rfl xb2 ?_
  refine xas ?_
  refine EOps_nil ?_
  refine⟨k+1,?_,?_,by
 show [Res.row 4 1 _]=[Res.row 4 1 (fillR (bools xs) [.sc (.bool false)] (k+1))]
 rw [← fill_set hbx]; simp [splice], ⟨.inr rfl, trivial⟩, ⟨.inr rfl, .inr rfl, .inr rfl, trivial⟩⟩
  ·first|omega|(dsimp only;omega)|(simp;omega)
  ·first|trivial|omega|(dsimp only;omega)|(simp;omega)
 ·have hk' : xs.length ≤ k := by simpa [bools_len] using hc11
  refine E_exit ?_
  refine E_seq ?_
  refine E_region' (L:=[0,1]) rfl ?_
  refine xmv ?_
  refine xas ?_
  refine EOps_nil ?_
  refine E_ret ?_
  refine⟨_,[0],rfl,rfl,?_,?_⟩
  ·simp [AV.ren,ren_sc,ren_ro,AC.ren,AC.ren.rens,ix,rv1,E.get,E.ev,E.cv,E.fill',E.fill,E.slotsOf,bools_len]
  ·simp [reR,Res.ren,fill_full (rows:=bools xs) (k:=k) (by omega)]

set_option maxRecDepth 20000 in
set_option maxHeartbeats 2000000 in
theorem c_laws_eqBoolS (xs ys : List Bool) : EFn Tryz.prog 68 [.c (.ro (bools xs)), .c (.ro (bools ys))] [] (fun r S => r = .c (.sc (.bool (decide (xs = ys)))) ∧ S = []) := by
 refine E_fn Tryz.func68 rfl (Nat.le_of_ble_eq_true rfl) ?_
 refine E_bound (t:=0) (rows:=bools xs) rfl fun hb=>?_
 rw [bools_len] at hb
 refine E_seq ?_
 refine E_region' (L:=[0]) rfl ?_
 refine xas ?_
 refine EOps_nil ?_
 refine E_seq ?_
 refine E_seq ?_
 refine E_region' (L:=[0,1,2,3,4]) rfl ?_
 refine xmv ?_
 refine x_pure rfl rfl rfl (l_len rfl sl_25) ?_
 refine xmv ?_
 refine x_pure rfl rfl rfl (l_len rfl sl_25) ?_
 refine x_pure rfl rfl rfl (L_bin rfl rfl rfl rfl) ?_
 refine EOps_nil ?_
 refine E_cond rfl (fun hc10=>?_) (fun hc10=>?_)
 ·have hne : xs ≠ ys := fun e => by subst e; simp at hc10
  refine E_seq ?_
  refine E_region' (L:=[0]) rfl ?_
  refine xas ?_
  refine EOps_nil ?_
  refine E_ret ?_
  refine⟨_,[],rfl,rfl,?_,rfl⟩
  simp [AV.ren,ren_sc,ren_ro,AC.ren,AC.ren.rens,ix,rv1,E.get,E.ev,E.cv,E.fill',E.fill,E.slotsOf,hne]
 ·have hlen : xs.length = ys.length := by simp [bools_len] at hc10; omega
  refine E_skip ?_
  refine E_seq ?_
  refine E_seq ?_
  refine E_region' (L:=[0]) rfl ?_
  refine xas ?_
  refine EOps_nil ?_
  refine E_block ?_
  refine e_for (α:=Nat) [0,1,10] (fun k=>[(5,.c (.sc (.int .i64 (k))))]) (fun _=>_) (fun k=>k≤xs.length∧xs.take k=ys.take k) (fun k=>xs.length - k) (0) ?_ (rfl) ⟨.inr rfl,trivial⟩ ?_
  ·simp
  rintro k ⟨hk,htk⟩
  refine E_seq ?_
  refine E_seq ?_
  refine E_region' (L:=[0,1,2,3]) rfl ?_
  refine xmv ?_
  refine xmv ?_
  refine x_pure rfl rfl rfl (l_len rfl sl_25) ?_
  refine x_pure rfl rfl rfl (L_bin rfl rfl rfl rfl) ?_
  refine EOps_nil ?_
  refine E_cond rfl (fun hc14=>?_) (fun hc14=>?_)
  ·have hc14' : k < (xs).length := by simpa [ints_len, bools_len, pairs_len, quads_len, quints_len] using hc14
   obtain⟨x,hx⟩:∃ x,(xs)[k]? = some x:=⟨_,List.getElem?_eq_getElem hc14'⟩
   obtain⟨y,hy⟩:∃ y,ys[k]? = some y:=⟨_,List.getElem?_eq_getElem (hlen ▸ hc14')⟩
   refine E_skip ?_
   refine E_seq ?_
   refine E_block ?_
   refine E_seq ?_
   refine E_drawT mixed ?_
   refine t_old 0 rfl rfl rfl (L_move rfl) ?_
   refine t_old 1 rfl rfl rfl (L_move rfl) ?_
   refine t_old 2 rfl rfl rfl (L_index rfl rfl (by first|exact i_ro sl_25 ty_4|exact i_sl sl_25 ty_4)) ?_
   refine t_light 3 rfl rfl rfl (L_load rfl (xb0 ty_4)) ?_
   refine t_old 4 rfl rfl rfl (L_move rfl) ?_
   refine t_old 5 rfl rfl rfl (L_move rfl) ?_
   refine t_old 6 rfl rfl rfl (L_index rfl rfl (by first|exact i_ro sl_25 ty_4|exact i_sl sl_25 ty_4)) ?_
   refine t_light 7 rfl rfl rfl (L_load rfl (xb0 ty_4)) ?_
   refine t_old 8 rfl rfl rfl (L_binB rfl bo_4 rfl rfl rfl) ?_
   refine T_done (by kernel_rfl) ?_
   refine E_cond rfl (fun hc25=>?_) (fun hc25=>?_)
   ·have hne : xs ≠ ys := fun e => by subst e; rw [hx] at hy; cases hy; simp at hc25
    refine E_seq ?_
    refine E_region' (L:=[0]) rfl ?_
    refine xas ?_
    refine EOps_nil ?_
    refine E_ret ?_
    refine⟨_,[],rfl,rfl,?_,rfl⟩
    simp [AV.ren,ren_sc,ren_ro,AC.ren,AC.ren.rens,ix,rv1,E.get,E.ev,E.cv,E.fill',E.fill,E.slotsOf,hne]
   ·have hxy : x = y := by simpa using hc25
    refine E_skip ?_
    refine E_region' (L:=[0,1,2]) rfl ?_
    refine xmv ?_
    refine x_pure rfl rfl rfl xb2 ?_
    refine xas ?_
    refine EOps_nil ?_
    refine⟨k+1,?_,?_,rfl,⟨.inr rfl,trivial⟩,⟨.inr rfl,.inr rfl,.inr rfl,trivial⟩⟩
    ·first|omega|(dsimp only;omega)|(simp;omega)
    ·exact⟨by omega,by rw [List.take_add_one,List.take_add_one,htk,hx,hy,hxy]⟩
  ·have hk' : xs.length ≤ k := by simpa [bools_len] using hc14
   have heq:xs=ys:=by rw [List.take_of_length_le hk',List.take_of_length_le (by omega)] at htk;exact htk
   refine E_exit ?_
   refine E_seq ?_
   refine E_region' (L:=[0]) rfl ?_
   refine xas ?_
   refine EOps_nil ?_
   refine E_ret ?_
   refine⟨_,[],rfl,rfl,?_,rfl⟩
   simp [AV.ren,ren_sc,ren_ro,AC.ren,AC.ren.rens,ix,rv1,E.get,E.ev,E.cv,E.fill',E.fill,E.slotsOf,heq]

set_option maxRecDepth 20000 in
set_option maxHeartbeats 2000000 in
theorem c_laws_markBoolS (e n : Nat) (q : Int) (xs : List Bool) (hn : xs.length = n) (hb : n ≤ 1048576) (hq : 0 ≤ q ∧ q ≤ 1099511627776) : EFn Tryz.prog 70 [.c (.sl 0 0 n n), .c (.sc (.int .i64 q))] [.row e 1 (bools xs)] (fun r S => r = .c (.sc (.int .i64 (q + n))) ∧ S = [.row e 1 (bools (seqB q n))]) := by
 refine E_fn Tryz.func70 rfl (Nat.le_of_ble_eq_true rfl) ?_
 have hM:=seqB_len q n
 have hbl:=bools_len xs
 have hlm:(bools (seqB q n)).length=(bools xs).length:=by rw [bools_len,bools_len];omega
 refine E_seq ?_
 refine E_region' (L:=[0]) rfl ?_
 refine xas ?_
 refine EOps_nil ?_
 refine E_seq ?_
 refine E_seq ?_
 refine E_region' (L:=[0]) rfl ?_
 refine xas ?_
 refine EOps_nil ?_
 refine E_block ?_
 refine e_for (α:=Nat) [0,4] (fun k=>[(5,.c (.sc (.int .i64 (k)))),(1,.c (.sc (.int .i64 ((q+k)))))]) (fun k=>[.row e 1 (overL (bools (seqB q n)) (bools xs) k)]) (fun k=>k≤n) (fun k=>n - k) (0) ?_ (by rw [over_zero]) ⟨.inr rfl,.inr (int_eq (by simp)),trivial⟩ ?_
 ·simp
 rintro k hk
 have hlk:(overL (bools (seqB q n)) (bools xs) k).length=n:=by rw [over_len hlm (by omega)];omega
 refine E_seq ?_
 refine E_seq ?_
 refine E_region' (L:=[0,1,2,3]) rfl ?_
 refine xmv ?_
 refine xmv ?_
 refine x_pure rfl rfl rfl (l_len rfl sl_25) ?_
 refine x_pure rfl rfl rfl (L_bin rfl rfl rfl rfl) ?_
 refine EOps_nil ?_
 refine E_cond rfl (fun hc9=>?_) (fun hc9=>?_)
 ·have hk0 : k < n := by simpa using hc9
  obtain⟨x,hx⟩:=at_lt (l:=xs) (k:=k) (by omega)
  have hat:=over_get hlm (bools_at hx)
  have hmk:=bools_at (seqB_at q n k hk0)
  refine E_skip ?_
  refine E_seq ?_
  refine E_block ?_
  refine E_seq ?_
  refine E_region' (L:=[0,1,2,3,4,5,6]) rfl ?_
  refine xmv ?_
  refine xmv ?_
  refine xmv ?_
  refine x_pure rfl rfl rfl (L_rem rfl rfl rfl (by omega) (by first|decide|omega)) ?_
  refine x_pure rfl rfl rfl (L_bin rfl rfl rfl rfl) ?_
  refine x_pure rfl rfl rfl (L_index rfl rfl (by first|exact i_ro sl_25 ty_4|exact i_sl sl_25 ty_4)) ?_
  refine EOps_go rfl rfl (EOp_store rfl rfl rfl (xb1 ty_4) ?_)
  refine EOps_nil ?_
  refine E_region' (L:=[0,1,2]) rfl ?_
  refine xmv ?_
  refine x_pure rfl rfl rfl xb2 ?_
  refine xas ?_
  refine EOps_nil ?_
  refine E_region' (L:=[0,1,2]) rfl ?_
  refine xmv ?_
  refine x_pure rfl rfl rfl xb2 ?_
  refine xas ?_
  refine EOps_nil ?_
  refine⟨k+1,?_,?_,by
 show [Res.row e 1 _]=[Res.row e 1 (overL (bools (seqB q n)) (bools xs) (k+1))]
 rw [← over_set hlm hmk]; simp [splice], ⟨.inr rfl, .inr (int_eq (by omega)), trivial⟩, ⟨.inr rfl, .inr rfl, trivial⟩⟩
  ·first|omega|(dsimp only;omega)|(simp;omega)
  ·first|trivial|omega|(dsimp only;omega)|(simp;omega)
 ·have hk1 : n ≤ k := by simpa using hc9
  have hk0:k=n:=by omega
  refine E_exit ?_
  refine E_seq ?_
  refine E_region' (L:=[0,1]) rfl ?_
  refine xmv ?_
  refine xas ?_
  refine EOps_nil ?_
  refine E_ret ?_
  subst hk0
  refine⟨_,[],rfl,rfl,rfl,?_⟩
  rw [over_full hlm (by omega)];rfl

end Go.Proofs.YthlhmpknngidmaaGreat.E
