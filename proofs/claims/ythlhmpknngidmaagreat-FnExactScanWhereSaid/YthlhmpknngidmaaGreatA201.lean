/- Walks through functions, by program out of the session's annotations. -/
import Derived.Test.YthlhmpknngidmaaGreatA200
namespace Go.Proofs.YthlhmpknngidmaaGreat.E
open Go Go.RowKit Go.Proofs
set_option linter.unusedVariables false
set_option linter.unusedSimpArgs false

def mpT (m:Mp):List T:=[.sl (ints m.c.vals),.sl (ints m.c.rows),.sl (pairs m.c.piv),.sl (ints m.tail),.sc (.int .i64 m.app)]
def mps (ms:List Mp):List (List T):=ms.map mpT
theorem mps_len (ms:List Mp):(mps ms).length=ms.length:=by simp [mps]
theorem mps_get {ms:List Mp} {k:Nat} {m:Mp} (h:ms[k]? = some m):(mps ms)[k]? = some (mpT m):=by rw [mps,List.getElem?_map,h];rfl
def mpZ (m:Mp):Nat:=m.c.vals.length+m.c.rows.length+m.c.piv.length+m.tail.length
def totZ : List Mp → Nat
 | []=>0
 | m::ms=>mpZ m+totZ ms
theorem totZ_app : ∀ (xs ys : List Mp), totZ (xs ++ ys) = totZ xs + totZ ys
 | [],ys=>by simp [totZ]
 | x::xs,ys=>by rw [List.cons_append,totZ,totZ_app xs ys,totZ];omega
theorem totZ_step {ms : List Mp} {k : Nat} {m : Mp} (h : ms[k]? = some m) : totZ (ms.take (k + 1)) = totZ (ms.take k) + mpZ m := by
 rw [List.take_add_one,h,totZ_app];simp [totZ]
theorem totZ_take (ms : List Mp) (k : Nat) : totZ (ms.take k) ≤ totZ ms := by
 have:=totZ_app (ms.take k) (ms.drop k)
 rw [List.take_append_drop] at this
 omega
theorem totZ_mem {ms : List Mp} {m : Mp} (h : m ∈ ms) : mpZ m ≤ totZ ms := by
 obtain⟨k,hk⟩:=List.getElem?_of_mem h
 have h1:=totZ_step hk
 have h2:=totZ_take ms (k+1)
 omega
def mpW (m:Mp):Nat:=m.c.vals.length+m.c.rows.length+2*m.c.piv.length+m.tail.length+1
def totM : List Mp → Nat
 | []=>0
 | m::ms=>mpW m+totM ms
theorem totM_app : ∀ (xs ys : List Mp), totM (xs ++ ys) = totM xs + totM ys
 | [],ys=>by simp [totM]
 | x::xs,ys=>by rw [List.cons_append,totM,totM_app xs ys,totM];omega
theorem totM_step {ms : List Mp} {k : Nat} {m : Mp} (h : ms[k]? = some m) : totM (ms.take (k + 1)) = totM (ms.take k) + mpW m := by
 rw [List.take_add_one,h,totM_app];simp [totM]
theorem totM_take (ms : List Mp) (k : Nat) : totM (ms.take k) ≤ totM ms := by
 have:=totM_app (ms.take k) (ms.drop k)
 rw [List.take_append_drop] at this
 omega
theorem totM_le : ∀ ms : List Mp, totM ms ≤ 2 * totZ ms + ms.length
 | []=>by simp [totM]
 | m :: ms => by
  have:=totM_le ms
  simp only [totM,totZ,mpW,mpZ,List.length_cons]
  omega
/-- What is marked of a map from q on. -/
def mrkMp (q:Int) (m:Mp):Mp:=⟨⟨seqF q m.c.vals.length,seqF (q+m.c.vals.length) m.c.rows.length,seqP (q+m.c.vals.length+m.c.rows.length) m.c.piv.length⟩,seqF (q+m.c.vals.length+m.c.rows.length+2*m.c.piv.length) m.tail.length,q+m.c.vals.length+m.c.rows.length+2*m.c.piv.length+m.tail.length⟩
def mrkMs (q : Int) : List Mp → List Mp
 | []=>[]
 | m::ms=>mrkMp q m::mrkMs (q+mpW m) ms
theorem mrkMs_len (q : Int) : ∀ ms : List Mp, (mrkMs q ms).length = ms.length
 | []=>rfl
 | m::ms=>by rw [mrkMs,List.length_cons,List.length_cons,mrkMs_len (q+mpW m) ms]
theorem mrkMs_at : ∀ (ms : List Mp) (q : Int) (k : Nat) (m : Mp), ms[k]? = some m → (mrkMs q ms)[k]? = some (mrkMp (q + totM (ms.take k)) m)
 | x :: ms, q, 0, m, h => by
  obtain rfl:x=m:=by simpa using h
  simp [mrkMs,totM]
 | x :: ms, q, k + 1, m, h => by
  have:=mrkMs_at ms (q+mpW x) k m (by simpa using h)
  simp only [mrkMs,List.getElem?_cons_succ,List.take_succ_cons,totM]
  rw [this]
  congr 2
  omega

set_option maxRecDepth 20000 in
set_option maxHeartbeats 2000000 in
theorem c_laws_szMapS (ls : List Mp) (left : Int) (hl : -1 ≤ left ∧ left ≤ 1048576) : EFn Tryz.prog 56 [.c (.ro (mps ls)), .c (.sc (.int .i64 left))] [] (fun r S => r = .c (.sc (.int .i64 (szR left (ls.length + totZ ls)))) ∧ S = []) := by
 refine E_fn Tryz.func56 rfl (Nat.le_of_ble_eq_true rfl) ?_
 refine E_bound (t:=0) (rows:=mps ls) rfl fun hb=>?_
 rw [mps_len] at hb
 have hnl:=mps_len ls
 refine E_seq ?_
 refine E_region' (L:=[0]) rfl ?_
 refine xas ?_
 refine EOps_nil ?_
 refine E_seq ?_
 refine E_region' (L:=[0,1,2,3,4]) rfl ?_
 refine xmv ?_
 refine xmv ?_
 refine x_pure rfl rfl rfl (l_len rfl sl_24) ?_
 refine x_pure rfl rfl rfl xb5 ?_
 refine xas ?_
 refine EOps_nil ?_
 refine E_seq ?_
 refine E_seq ?_
 refine E_region' (L:=[0,1]) rfl ?_
 refine xmv ?_
 refine x_pure rfl rfl rfl (L_bin rfl rfl rfl rfl) ?_
 refine EOps_nil ?_
 refine E_cond rfl (fun hc11=>?_) (fun hc11=>?_)
 ·have h1 : szR left ls.length < 0 := by rw [szR, if_pos (by simpa [mps_len] using hc11)]; decide
  refine E_seq ?_
  refine E_region' (L:=[0]) rfl ?_
  refine xas ?_
  refine EOps_nil ?_
  refine E_ret ?_
  refine⟨_,[],rfl,rfl,int_eq ?_,rfl⟩
  rw [szR_end h1 (by omega)]
 ·have h1 : ¬ left - ls.length < 0 := by simpa [mps_len] using hc11
  have h0:szR left ls.length=left - ls.length:=by rw [szR,if_neg h1]
  refine E_skip ?_
  refine E_seq ?_
  refine E_seq ?_
  refine E_region' (L:=[0]) rfl ?_
  refine xas ?_
  refine EOps_nil ?_
  refine E_block ?_
  refine e_for (α:=Nat) [0,11] (fun k=>[(5,.c (.sc (.int .i64 (k)))),(1,.c (.sc (.int .i64 ((szR left (ls.length+totZ (ls.take k)))))))]) (fun _=>_) (fun k=>k≤ls.length ∧ ¬ szR left (ls.length+totZ (ls.take k))<0) (fun k=>ls.length - k) (0) ?_ (rfl) ⟨.inr rfl,.inr (int_eq (by simp [totZ,mps_len,h0])),trivial⟩ ?_
  ·exact⟨Nat.zero_le _,by simp [totZ,h0];omega⟩
  rintro k ⟨hk,hnn⟩
  refine E_seq ?_
  refine E_seq ?_
  refine E_region' (L:=[0,1,2,3]) rfl ?_
  refine xmv ?_
  refine xmv ?_
  refine x_pure rfl rfl rfl (l_len rfl sl_24) ?_
  refine x_pure rfl rfl rfl (L_bin rfl rfl rfl rfl) ?_
  refine EOps_nil ?_
  refine E_cond rfl (fun hc15=>?_) (fun hc15=>?_)
  ·have hk' : k < ls.length := by simpa [mps_len] using hc15
   obtain⟨l,hx⟩:=at_lt hk'
   have hnx:=mps_get hx
   have hst:=totZ_step hx
   have htk:=totZ_take ls (k+1)
   have hz:=szR_f (mpZ l) hnn
   rw [show ls.length+totZ (ls.take k)+mpZ l=ls.length+totZ (ls.take (k+1)) by omega] at hz
   refine E_skip ?_
   refine E_seq ?_
   refine E_block ?_
   refine E_seq ?_
   refine E_region' (L:=[0,1,2,3,4,5,6]) rfl ?_
   refine xmv ?_
   refine xmv ?_
   refine x_pure rfl rfl rfl (L_index rfl rfl (by first|exact i_ro sl_24 ty_152|exact i_sl sl_24 ty_152)) ?_
   refine x_light rfl rfl rfl (L_load rfl (xb0 ty_152)) ?_
   refine xmv ?_
   refine x_call rfl rfl rfl rfl rfl ca_126 (c_laws_szMap l (szR left (ls.length+totZ (ls.take k))) (szR_rng hl)) ?_
   rintro r S ⟨rfl,rfl⟩
   rw [show l.c.vals.length+l.c.rows.length+l.c.piv.length+l.tail.length=mpZ l from rfl,hz]
   refine xas ?_
   refine EOps_nil ?_
   refine E_seq ?_
   refine E_region' (L:=[0,1]) rfl ?_
   refine xmv ?_
   refine x_pure rfl rfl rfl (L_bin rfl rfl rfl rfl) ?_
   refine EOps_nil ?_
   refine E_cond rfl (fun hc25=>?_) (fun hc25=>?_)
   ·have h2 : szR left (ls.length + totZ (ls.take (k + 1))) < 0 := by simpa using hc25
    refine E_seq ?_
    refine E_region' (L:=[0]) rfl ?_
    refine xas ?_
    refine EOps_nil ?_
    refine E_ret ?_
    refine⟨_,[],rfl,rfl,int_eq ?_,rfl⟩
    rw [szR_end h2 (by omega)]
   ·have h2 : ¬ szR left (ls.length + totZ (ls.take (k + 1))) < 0 := by simpa using hc25
    refine E_skip ?_
    refine E_region' (L:=[0,1,2]) rfl ?_
    refine xmv ?_
    refine x_pure rfl rfl rfl xb2 ?_
    refine xas ?_
    refine EOps_nil ?_
    refine⟨k+1,?_,?_,rfl,⟨.inr rfl,.inr (int_eq (by omega)),trivial⟩,⟨.inr rfl,.inr rfl,trivial⟩⟩
    ·first|omega|(dsimp only;omega)|(simp;omega)
    ·exact⟨by omega,h2⟩
  ·have hk' : ls.length ≤ k := by simpa [mps_len] using hc15
   refine E_exit ?_
   refine E_seq ?_
   refine E_region' (L:=[0,1]) rfl ?_
   refine xmv ?_
   refine xas ?_
   refine EOps_nil ?_
   refine E_ret ?_
   refine⟨_,[],rfl,rfl,int_eq ?_,rfl⟩
   rw [List.take_of_length_le hk']

set_option maxRecDepth 20000 in
set_option maxHeartbeats 8000000 in
theorem c_laws_toMapS (ls : List Mp) (hn : ls.length ≤ 1048576 ∧ totZ ls ≤ 1048576) : EFn Tryz.prog 62 [.c (.ro (mps ls))] [] (fun r S => r = .c (.sl 0 0 ls.length ls.length) ∧ S = [.row 72 5 (mps ls)]) := by
 refine E_fn Tryz.func62 rfl (Nat.le_of_ble_eq_true rfl) ?_
 refine E_G (n:=0) rfl ?_
 have hnl:=mps_len ls
 refine G_seq ?_
 refine G_region' (L:=[0]) rfl ?_
 refine xas ?_
 refine EOps_nil ?_
 refine G_seq ?_
 refine G_region' (L:=[0,1,2,3]) rfl ?_
 refine xmv ?_
 refine x_pure rfl rfl rfl (l_len rfl sl_24) ?_
 refine EOps_go rfl rfl (Heavy.op (H_make rfl rfl (by decide) rfl rfl sl_29 ty_72 by_72 za_72 ⟨rfl,by decide⟩ (by simp [mps_len];omega) ?_))
 refine xas ?_
 refine EOps_nil ?_
 refine G_seq ?_
 refine G_seq ?_
 refine G_region' (L:=[0]) rfl ?_
 refine xas ?_
 refine EOps_nil ?_
 refine G_block ?_
 refine g_forD (α:=Nat) [0,2,3] (fun k=>[(4,.c (.sc (.int .i64 (k))))]) (fun k=>[.row 72 5 (fillR (mps ls) [.sl [],.sl [],.sl [],.sl [],.sc (.int .i64 0)] k)]) (fun k=>k≤ls.length) (fun k=>ls.length - k) (0) ?_ (by rw [fill_zero];simp [zT]) ⟨.inr rfl,trivial⟩ ?_
 ·simp
 rintro k hk
 refine G_seq ?_
 refine G_seq ?_
 refine G_region' (L:=[0,1,2,3]) rfl ?_
 refine xmv ?_
 refine xmv ?_
 refine x_pure rfl rfl rfl (l_len rfl sl_24) ?_
 refine x_pure rfl rfl rfl (L_bin rfl rfl rfl rfl) ?_
 refine EOps_nil ?_
 refine G_cond rfl (fun hc11=>?_) (fun hc11=>?_)
 ·have hk' : k < ls.length := by simpa [mps_len] using hc11
  obtain⟨l,hx⟩:=at_lt hk'
  have hnx:=mps_get hx
  have hfl:(fillR (mps ls) [.sl [],.sl [],.sl [],.sl [],.sc (.int .i64 0)] k).length=(mps ls).length:=fill_len (by omega)
  have hfa:(fillR (mps ls) [.sl [],.sl [],.sl [],.sl [],.sc (.int .i64 0)] k)[k]? = some [.sl [],.sl [],.sl [],.sl [],.sc (.int .i64 0)]:=fill_at (by omega)
  have hml:=totZ_mem (List.mem_of_getElem? hx)
  unfold mpZ at hml
  refine G_skip ?_
  refine G_seq ?_
  refine G_block ?_
  refine (X_focus 0 k 0 rfl hfa rfl).G fun z=>?_
  obtain⟨⟨u0,e0,m0⟩,hz1,hz2⟩:=z
  dsimp only
  clear hz1 hz2
  refine (X_focus 0 k 1 rfl (setR_at xb10) rfl).G fun z=>?_
  obtain⟨⟨u1,e1,m1⟩,hz1,hz2⟩:=z
  dsimp only
  clear hz1 hz2
  refine (X_focus 0 k 2 rfl (setR_at xb10) rfl).G fun z=>?_
  obtain⟨⟨u2,e2,m2⟩,hz1,hz2⟩:=z
  dsimp only
  clear hz1 hz2
  refine (X_focus 0 k 3 rfl (setR_at xb10) rfl).G fun z=>?_
  obtain⟨⟨u3,e3,m3⟩,hz1,hz2⟩:=z
  dsimp only
  clear hz1 hz2
  simp only [List.set_set,List.set_cons_zero,List.set_cons_succ]
  have hf2:((fillR (mps ls) [.sl [],.sl [],.sl [],.sl [],.sc (.int .i64 0)] k).set k [.sc u0,.sc u1,.sc u2,.sc u3,.sc (.int .i64 0)]).length=(mps ls).length:=by rw [List.length_set];exact hfl
  have ha2:((fillR (mps ls) [.sl [],.sl [],.sl [],.sl [],.sc (.int .i64 0)] k).set k [.sc u0,.sc u1,.sc u2,.sc u3,.sc (.int .i64 0)])[k]? = some [.sc u0,.sc u1,.sc u2,.sc u3,.sc (.int .i64 0)]:=setR_at (by omega)
  refine g_tidy [0,2,3,4,11] ?_
  refine G_region' (L:=[0,1,2,3,4,5,6,7,8]) rfl ?_
  refine xmv ?_
  refine xmv ?_
  refine xmv ?_
  refine xmv ?_
  refine x_pure rfl rfl rfl (L_index rfl rfl (by first|exact i_ro sl_24 ty_152|exact i_sl sl_24 ty_152)) ?_
  refine x_light rfl rfl rfl (L_load rfl (xb0 ty_152)) ?_
  refine x_call rfl rfl rfl rfl rfl ca_127 (c_laws_toMap l (by omega)) ?_
  rintro r S ⟨rfl,rfl⟩
  refine x_pure rfl rfl rfl (L_index rfl rfl (by first|exact i_ro sl_29 ty_72|exact i_sl sl_29 ty_72)) ?_
  refine (X_pinA 20 0 rfl rfl).X fun v0=>?_
  refine (X_pinA 20 1 rfl rfl).X fun v1=>?_
  refine (X_pinA 20 2 rfl rfl).X fun v2=>?_
  refine (X_pinA 20 3 rfl rfl).X fun v3=>?_
  refine EOps_go rfl rfl (EOp_store rfl rfl rfl (xb1 ty_72) ?_)
  refine EOps_nil ?_
  simp only [Nat.zero_add,Int.toNat_natCast]
  refine (X_absorb (cs:=[.sc v0,.sc v1,.sc v2,.sc v3,.sc (.int .i64 l.app)]) 0 k 0 13 9 rfl (setR_at xb10) rfl rfl rfl (ints_len _) (by decide) rfl).G fun _=>?_
  refine (X_absorb (cs:=[.sl (ints l.c.vals),.sc v1,.sc v2,.sc v3,.sc (.int .i64 l.app)]) 0 k 1 14 10 rfl (setR_at xb10) rfl rfl rfl (ints_len _) (by decide) rfl).G fun _=>?_
  refine (X_absorb (cs:=[.sl (ints l.c.vals),.sl (ints l.c.rows),.sc v2,.sc v3,.sc (.int .i64 l.app)]) 0 k 2 15 11 rfl (setR_at xb10) rfl rfl rfl (pairs_len _) (by decide) rfl).G fun _=>?_
  refine (X_absorb (cs:=[.sl (ints l.c.vals),.sl (ints l.c.rows),.sl (pairs l.c.piv),.sc v3,.sc (.int .i64 l.app)]) 0 k 3 16 12 rfl (setR_at xb10) rfl rfl rfl (ints_len _) (by decide) rfl).G fun _=>?_
  refine G_region' (L:=[0,1,2]) rfl ?_
  refine xmv ?_
  refine x_pure rfl rfl rfl xb2 ?_
  refine xas ?_
  refine EOps_nil ?_
  refine⟨[0],rfl,k+1,?_,?_,by
 simp only [List.set_set]
 rw [← fill_set hnx]; rfl, ⟨.inr rfl, trivial⟩, ⟨.inr rfl, .inr rfl, .inr rfl, trivial⟩⟩
  ·first|omega|(dsimp only;omega)|(simp;omega)
  ·first|trivial|omega|(dsimp only;omega)|(simp;omega)
 ·have hk' : ls.length ≤ k := by simpa [mps_len] using hc11
  refine G_exit ?_
  refine G_seq ?_
  refine G_region' (L:=[0,1]) rfl ?_
  refine xmv ?_
  refine xas ?_
  refine EOps_nil ?_
  refine G_ret ?_
  refine⟨_,[0],rfl,rfl,?_,?_⟩
  ·simp [AV.ren,ren_sc,ren_ro,AC.ren,AC.ren.rens,ix,rv1,E.get,E.ev,E.cv,E.fill',E.fill,E.slotsOf,mps_len]
  ·simp [reR,Res.ren,fill_full (rows:=mps ls) (k:=k) (by omega)]

set_option maxRecDepth 20000 in
set_option maxHeartbeats 2000000 in
theorem c_laws_eqMapS (xs ys : List Mp) : EFn Tryz.prog 67 [.c (.ro (mps xs)), .c (.ro (mps ys))] [] (fun r S => r = .c (.sc (.bool (decide (xs = ys)))) ∧ S = []) := by
 refine E_fn Tryz.func67 rfl (Nat.le_of_ble_eq_true rfl) ?_
 refine E_bound (t:=0) (rows:=mps xs) rfl fun hb=>?_
 rw [mps_len] at hb
 have hlx:=mps_len xs
 have hly:=mps_len ys
 refine E_seq ?_
 refine E_region' (L:=[0]) rfl ?_
 refine xas ?_
 refine EOps_nil ?_
 refine E_seq ?_
 refine E_seq ?_
 refine E_region' (L:=[0,1,2,3,4]) rfl ?_
 refine xmv ?_
 refine x_pure rfl rfl rfl (l_len rfl sl_29) ?_
 refine xmv ?_
 refine x_pure rfl rfl rfl (l_len rfl sl_29) ?_
 refine x_pure rfl rfl rfl (L_bin rfl rfl rfl rfl) ?_
 refine EOps_nil ?_
 refine E_cond rfl (fun hc10=>?_) (fun hc10=>?_)
 ·have hne : xs ≠ ys := fun e => by subst e; simp at hc10
  refine E_seq ?_
  refine E_region' (L:=[0]) rfl ?_
  refine xas ?_
  refine EOps_nil ?_
  refine E_ret ?_
  refine⟨_,[],rfl,rfl,?_,rfl⟩
  simp [AV.ren,ren_sc,ren_ro,AC.ren,AC.ren.rens,ix,rv1,E.get,E.ev,E.cv,E.fill',E.fill,E.slotsOf,hne]
 ·have hlen : xs.length = ys.length := by simp [mps_len] at hc10; omega
  refine E_skip ?_
  refine E_seq ?_
  refine E_seq ?_
  refine E_region' (L:=[0]) rfl ?_
  refine xas ?_
  refine EOps_nil ?_
  refine E_block ?_
  refine e_for (α:=Nat) [0,1,10] (fun k=>[(5,.c (.sc (.int .i64 (k))))]) (fun _=>_) (fun k=>k≤xs.length∧xs.take k=ys.take k) (fun k=>xs.length - k) (0) ?_ (rfl) ⟨.inr rfl,trivial⟩ ?_
  ·simp
  rintro k ⟨hk,htk⟩
  refine E_seq ?_
  refine E_seq ?_
  refine E_region' (L:=[0,1,2,3]) rfl ?_
  refine xmv ?_
  refine xmv ?_
  refine x_pure rfl rfl rfl (l_len rfl sl_29) ?_
  refine x_pure rfl rfl rfl (L_bin rfl rfl rfl rfl) ?_
  refine EOps_nil ?_
  refine E_cond rfl (fun hc14=>?_) (fun hc14=>?_)
  ·have hc14' : k < xs.length := by simpa [mps_len] using hc14
   obtain⟨x,hx⟩:=at_lt hc14'
   obtain⟨y,hy⟩:∃ y,ys[k]? = some y:=⟨_,List.getElem?_eq_getElem (hlen ▸ hc14')⟩
   have hnx:=mps_get hx
   have hny:=mps_get hy
   refine E_skip ?_
   refine E_seq ?_
   refine E_block ?_
   refine E_seq ?_
   refine E_drawT mixed ?_
   refine t_old 0 rfl rfl rfl (L_move rfl) ?_
   refine t_old 1 rfl rfl rfl (L_move rfl) ?_
   refine t_old 2 rfl rfl rfl (L_index rfl rfl (by first|exact i_ro sl_29 ty_72|exact i_sl sl_29 ty_72)) ?_
   refine t_light 3 rfl rfl rfl (L_load rfl (xb0 ty_72)) ?_
   refine t_old 4 rfl rfl rfl (L_move rfl) ?_
   refine t_old 5 rfl rfl rfl (L_move rfl) ?_
   refine t_old 6 rfl rfl rfl (L_index rfl rfl (by first|exact i_ro sl_29 ty_72|exact i_sl sl_29 ty_72)) ?_
   refine t_light 7 rfl rfl rfl (L_load rfl (xb0 ty_72)) ?_
   refine t_call 8 rfl rfl rfl rfl rfl ca_130 (c_laws_eqMap x y) ?_
   rintro r S ⟨rfl,rfl⟩
   refine t_old 9 rfl rfl rfl (L_not rfl rfl) ?_
   refine T_done (by kernel_rfl) ?_
   refine E_cond rfl (fun hc26=>?_) (fun hc26=>?_)
   ·have hne : xs ≠ ys := fun e => by subst e; rw [hx] at hy; cases hy; simp at hc26
    refine E_seq ?_
    refine E_region' (L:=[0]) rfl ?_
    refine xas ?_
    refine EOps_nil ?_
    refine E_ret ?_
    refine⟨_,[],rfl,rfl,?_,rfl⟩
    simp [AV.ren,ren_sc,ren_ro,AC.ren,AC.ren.rens,ix,rv1,E.get,E.ev,E.cv,E.fill',E.fill,E.slotsOf,hne]
   ·have hxy : x = y := by simpa using hc26
    refine E_skip ?_
    refine E_region' (L:=[0,1,2]) rfl ?_
    refine xmv ?_
    refine x_pure rfl rfl rfl xb2 ?_
    refine xas ?_
    refine EOps_nil ?_
    refine⟨k+1,?_,?_,rfl,⟨.inr rfl,trivial⟩,⟨.inr rfl,.inr rfl,.inr rfl,trivial⟩⟩
    ·first|omega|(dsimp only;omega)|(simp;omega)
    ·exact⟨by omega,by rw [List.take_add_one,List.take_add_one,htk,hx,hy,hxy]⟩
  ·have hk' : xs.length ≤ k := by simpa [mps_len] using hc14
   have heq:xs=ys:=by rw [List.take_of_length_le hk',List.take_of_length_le (by omega)] at htk;exact htk
   refine E_exit ?_
   refine E_seq ?_
   refine E_region' (L:=[0]) rfl ?_
   refine xas ?_
   refine EOps_nil ?_
   refine E_ret ?_
   refine⟨_,[],rfl,rfl,?_,rfl⟩
   simp [AV.ren,ren_sc,ren_ro,AC.ren,AC.ren.rens,ix,rv1,E.get,E.ev,E.cv,E.fill',E.fill,E.slotsOf,heq]

set_option maxRecDepth 20000 in
set_option maxHeartbeats 2000000 in
theorem c_laws_markPivotSK (e m n : Nat) (q : Int) (xs : List (Int × Int)) (hn : xs.length = n) (hb : n ≤ 1048576) (hq : 0 ≤ q ∧ q ≤ 1099511627776) (hm : ∀ r ∈ pairs xs, r.length = m) : EFn Tryz.prog 131 [.c (.sl 0 0 n n), .c (.sc (.int .i64 q))] [.row e m (pairs xs)] (fun r S => r = .c (.sc (.int .i64 (q + 2 * n))) ∧ S = [.row e m (pairs (seqP q n))]) := by
 refine E_fn Tryz.func131 rfl (Nat.le_of_ble_eq_true rfl) ?_
 refine E_seq ?_
 refine E_region' (L:=[0]) rfl ?_
 refine xas ?_
 refine EOps_nil ?_
 refine E_seq ?_
 refine E_seq ?_
 refine E_region' (L:=[0]) rfl ?_
 refine xas ?_
 refine EOps_nil ?_
 refine E_block ?_
 refine e_for (α:=Nat) [0,4] (fun k=>[(5,.c (.sc (.int .i64 (k)))),(1,.c (.sc (.int .i64 ((q+2*k)))))]) (fun k=>[.row e m (pairs (seqP q k++xs.drop k))]) (fun k=>k≤n) (fun k=>n - k) (0) ?_ (rfl) ⟨.inr rfl,.inr (int_eq (by simp)),trivial⟩ ?_
 ·simp
 rintro k hk
 have hlk:(pairs (seqP q k++xs.drop k)).length=n:=by simp [pairs_len,seqP_len];omega
 refine E_seq ?_
 refine E_seq ?_
 refine E_region' (L:=[0,1,2,3]) rfl ?_
 refine xmv ?_
 refine xmv ?_
 refine x_pure rfl rfl rfl (l_len rfl sl_68) ?_
 refine x_pure rfl rfl rfl (L_bin rfl rfl rfl rfl) ?_
 refine EOps_nil ?_
 refine E_cond rfl (fun hc9=>?_) (fun hc9=>?_)
 ·have hk0 : k < n := by simpa using hc9
  have hk':k<xs.length:=by omega
  obtain⟨x,hx,hx',hset⟩:=over_at (seqP_len q k) hk'
  obtain rfl:2=m:=hm [.sc (.int .i64 x.1),.sc (.int .i64 x.2)] (List.mem_of_getElem? (pairs_at hx))
  refine E_skip ?_
  refine E_seq ?_
  refine E_block ?_
  refine E_seq ?_
  refine E_region' (L:=[0,1,2,3,4,5]) rfl ?_
  refine xmv ?_
  refine xmv ?_
  refine xmv ?_
  refine x_pure rfl rfl rfl (L_index rfl rfl (by first|exact i_ro sl_68 ty_157|exact i_sl sl_68 ty_157)) ?_
  refine x_pure rfl rfl rfl (l_field rfl fo_157_0) ?_
  refine EOps_go rfl rfl (EOp_store rfl rfl rfl (xb1 ty_3) ?_)
  refine EOps_nil ?_
  refine E_seq ?_
  refine E_region' (L:=[0,1,2]) rfl ?_
  refine xmv ?_
  refine x_pure rfl rfl rfl xb2 ?_
  refine xas ?_
  refine EOps_nil ?_
  refine E_seq ?_
  refine E_region' (L:=[0,1,2,3,4,5]) rfl ?_
  refine xmv ?_
  refine xmv ?_
  refine xmv ?_
  refine x_pure rfl rfl rfl (L_index rfl rfl (by first|exact i_ro sl_68 ty_157|exact i_sl sl_68 ty_157)) ?_
  refine x_pure rfl rfl rfl (l_field rfl fo_157_1) ?_
  refine EOps_go rfl rfl (EOp_store rfl rfl rfl (xb1 ty_3) ?_)
  refine EOps_nil ?_
  refine E_region' (L:=[0,1,2]) rfl ?_
  refine xmv ?_
  refine x_pure rfl rfl rfl xb2 ?_
  refine xas ?_
  refine EOps_nil ?_
  refine E_region' (L:=[0,1,2]) rfl ?_
  refine xmv ?_
  refine x_pure rfl rfl rfl xb2 ?_
  refine xas ?_
  refine EOps_nil ?_
  refine⟨k+1,?_,?_,by
 have hs:=hset (q+2*k,q+2*k+1)
 show [Res.row e 2 _]=[Res.row e 2 (pairs ((seqP q k++[(q+2*(k:Int),q+2*(k:Int)+1)])++xs.drop (k+1)))]
 rw [← hs, ← pairs_set]; simp [splice], ⟨.inr rfl, .inr (int_eq (by omega)), trivial⟩, ⟨.inr rfl, .inr rfl, trivial⟩⟩
  ·first|omega|(dsimp only;omega)|(simp;omega)
  ·first|trivial|omega|(dsimp only;omega)|(simp;omega)
 ·have hk1 : n ≤ k := by simpa using hc9
  have hk0:k=n:=by omega
  refine E_exit ?_
  refine E_seq ?_
  refine E_region' (L:=[0,1]) rfl ?_
  refine xmv ?_
  refine xas ?_
  refine EOps_nil ?_
  refine E_ret ?_
  subst hk0
  refine⟨_,[],rfl,rfl,rfl,?_⟩
  have hd:xs.drop k=[]:=List.drop_of_length_le (by omega)
  have hfin:seqP q k++xs.drop k=seqP q k:=by rw [hd,List.append_nil]
  rw [hfin];rfl

set_option maxRecDepth 20000 in
set_option maxHeartbeats 8000000 in
theorem c_laws_markMapS (e n : Nat) (q : Int) (ls : List Mp) (hn : ls.length = n) (hb : ls.length ≤ 1048576 ∧ totZ ls ≤ 1048576) (hq : 0 ≤ q ∧ q ≤ 1000000000000) : EFn Tryz.prog 69 [.c (.sl 0 0 n n), .c (.sc (.int .i64 q))] [.row e 5 (mps ls)] (fun r S => r = .c (.sc (.int .i64 (q + totM ls))) ∧ S = [.row e 5 (mps (mrkMs q ls))]) := by
 refine E_fn Tryz.func69 rfl (Nat.le_of_ble_eq_true rfl) ?_
 refine E_G (n:=1) rfl ?_
 have hnl:=mps_len ls
 have hlm:(mps (mrkMs q ls)).length=(mps ls).length:=by rw [mps_len,mps_len,mrkMs_len]
 have htl:=totM_le ls
 refine G_seq ?_
 refine G_region' (L:=[0]) rfl ?_
 refine xas ?_
 refine EOps_nil ?_
 refine G_seq ?_
 refine G_seq ?_
 refine G_region' (L:=[0]) rfl ?_
 refine xas ?_
 refine EOps_nil ?_
 refine G_block ?_
 refine g_forD (α:=Nat) [0,4] (fun k=>[(5,.c (.sc (.int .i64 (k)))),(1,.c (.sc (.int .i64 ((q+totM (ls.take k))))))]) (fun k=>[.row e 5 (overL (mps (mrkMs q ls)) (mps ls) k)]) (fun k=>k≤n) (fun k=>n - k) (0) ?_ (by rw [over_zero]) ⟨.inr rfl,.inr (int_eq (by simp [totM])),trivial⟩ ?_
 ·simp
 rintro k hk
 have htk:=totM_take ls k
 have hlk:(overL (mps (mrkMs q ls)) (mps ls) k).length=n:=by rw [over_len hlm (by omega)];omega
 refine G_seq ?_
 refine G_seq ?_
 refine G_region' (L:=[0,1,2,3]) rfl ?_
 refine xmv ?_
 refine xmv ?_
 refine x_pure rfl rfl rfl (l_len rfl sl_29) ?_
 refine x_pure rfl rfl rfl (L_bin rfl rfl rfl rfl) ?_
 refine EOps_nil ?_
 refine G_cond rfl (fun hc9=>?_) (fun hc9=>?_)
 ·have hk0 : k < n := by simpa using hc9
  obtain⟨l,hx⟩:=at_lt (l:=ls) (k:=k) (by omega)
  have hat:=over_get hlm (mps_get hx)
  have hmk:=mps_get (mrkMs_at ls q k l hx)
  have hst:=totM_step hx
  have htk1:=totM_take ls (k+1)
  have hml:=totZ_mem (List.mem_of_getElem? hx)
  unfold mpZ at hml
  unfold mpT at hat
  unfold mpW at hst
  refine G_skip ?_
  refine G_seq ?_
  refine G_block ?_
  refine G_seq ?_
  refine (X_focus 0 k 0 rfl hat rfl).G fun z=>?_
  obtain⟨⟨u0,e0,m0⟩,hz,hm0⟩:=z
  dsimp only at hm0 ⊢
  clear hz
  refine (X_focus 0 k 1 rfl (setR_at xb10) rfl).G fun z=>?_
  obtain⟨⟨u1,e1,m1⟩,hz,hm1⟩:=z
  dsimp only at hm1 ⊢
  clear hz
  refine (X_focus 0 k 2 rfl (setR_at xb10) rfl).G fun z=>?_
  obtain⟨⟨u2,e2,m2⟩,hz,hm2⟩:=z
  dsimp only at hm2 ⊢
  clear hz
  refine (X_focus 0 k 3 rfl (setR_at xb10) rfl).G fun z=>?_
  obtain⟨⟨u3,e3,m3⟩,hz,hm3⟩:=z
  dsimp only at hm3 ⊢
  clear hz
  simp only [List.set_set,List.set_cons_zero,List.set_cons_succ,ints_len,pairs_len,List.length_cons,List.length_nil,List.length_append,Nat.zero_add,List.length_set,Nat.reduceAdd]
  have hf2:((overL (mps (mrkMs q ls)) (mps ls) k).set k [.sc u0,.sc u1,.sc u2,.sc u3,.sc (.int .i64 l.app)]).length=n:=by rw [List.length_set];exact hlk
  have ha2:((overL (mps (mrkMs q ls)) (mps ls) k).set k [.sc u0,.sc u1,.sc u2,.sc u3,.sc (.int .i64 l.app)])[k]? = some [.sc u0,.sc u1,.sc u2,.sc u3,.sc (.int .i64 l.app)]:=setR_at (by omega)
  refine g_tidy [0,1,4,5,9] ?_
  refine G_region' (L:=[0,1,2,3,4,5,6,7,8]) rfl ?_
  refine xmv ?_
  refine xmv ?_
  refine x_pure rfl rfl rfl (L_index rfl rfl (by first|exact i_ro sl_29 ty_72|exact i_sl sl_29 ty_72)) ?_
  refine x_pure rfl rfl rfl (l_field rfl fo_72_0) ?_
  refine x_pure rfl rfl rfl (l_field rfl fo_70_0) ?_
  refine x_light rfl rfl rfl (L_load rfl (xb0 ty_22)) ?_
  refine (X_unpin 17 2 rfl rfl).X fun _=>?_
  refine xmv ?_
  refine x_frame [1] rfl rfl rfl rfl rfl ca_27 rfl (c_laws_markIntSK e0 m0 l.c.vals.length (q+totM (ls.take k)) l.c.vals rfl (by omega) (by omega) hm0) ?_
  rintro r S ⟨r0,S0,⟨rfl,rfl⟩,rfl,rfl⟩
  refine xas ?_
  refine EOps_nil ?_
  refine G_seq ?_
  refine g_tidy [0,1,4,5,9] ?_
  refine G_region' (L:=[0,1,2,3,4,5,6,7,8]) rfl ?_
  refine xmv ?_
  refine xmv ?_
  refine x_pure rfl rfl rfl (L_index rfl rfl (by first|exact i_ro sl_29 ty_72|exact i_sl sl_29 ty_72)) ?_
  refine x_pure rfl rfl rfl (l_field rfl fo_72_0) ?_
  refine x_pure rfl rfl rfl (l_field rfl fo_70_1) ?_
  refine x_light rfl rfl rfl (L_load rfl (xb0 ty_22)) ?_
  refine (X_unpin 25 4 rfl rfl).X fun _=>?_
  refine xmv ?_
  refine x_frame [3] rfl rfl rfl rfl rfl ca_27 rfl (c_laws_markIntSK e1 m1 l.c.rows.length (q+totM (ls.take k)+l.c.vals.length) l.c.rows rfl (by omega) (by omega) hm1) ?_
  rintro r S ⟨r0,S0,⟨rfl,rfl⟩,rfl,rfl⟩
  refine xas ?_
  refine EOps_nil ?_
  refine G_seq ?_
  refine g_tidy [0,1,4,5,9] ?_
  refine G_region' (L:=[0,1,2,3,4,5,6,7,8]) rfl ?_
  refine xmv ?_
  refine xmv ?_
  refine x_pure rfl rfl rfl (L_index rfl rfl (by first|exact i_ro sl_29 ty_72|exact i_sl sl_29 ty_72)) ?_
  refine x_pure rfl rfl rfl (l_field rfl fo_72_0) ?_
  refine x_pure rfl rfl rfl (l_field rfl fo_70_2) ?_
  refine x_light rfl rfl rfl (L_load rfl (xb0 ty_68)) ?_
  refine (X_unpin 33 6 rfl rfl).X fun _=>?_
  refine xmv ?_
  refine x_frame [5] rfl rfl rfl rfl rfl ca_131 rfl (c_laws_markPivotSK e2 m2 l.c.piv.length (q+totM (ls.take k)+l.c.vals.length+l.c.rows.length) l.c.piv rfl (by omega) (by omega) hm2) ?_
  rintro r S ⟨r0,S0,⟨rfl,rfl⟩,rfl,rfl⟩
  refine xas ?_
  refine EOps_nil ?_
  refine G_seq ?_
  refine g_tidy [0,1,4,5,9] ?_
  refine G_region' (L:=[0,1,2,3,4,5,6,7]) rfl ?_
  refine xmv ?_
  refine xmv ?_
  refine x_pure rfl rfl rfl (L_index rfl rfl (by first|exact i_ro sl_29 ty_72|exact i_sl sl_29 ty_72)) ?_
  refine x_pure rfl rfl rfl (l_field rfl fo_72_1) ?_
  refine x_light rfl rfl rfl (L_load rfl (xb0 ty_22)) ?_
  refine (X_unpin 40 8 rfl rfl).X fun _=>?_
  refine xmv ?_
  refine x_frame [7] rfl rfl rfl rfl rfl ca_27 rfl (c_laws_markIntSK e3 m3 l.tail.length (q+totM (ls.take k)+l.c.vals.length+l.c.rows.length+2*l.c.piv.length) l.tail rfl (by omega) (by omega) hm3) ?_
  rintro r S ⟨r0,S0,⟨rfl,rfl⟩,rfl,rfl⟩
  refine xas ?_
  refine EOps_nil ?_
  refine G_seq ?_
  refine G_region' (L:=[0,1,2,3,4,5]) rfl ?_
  refine xmv ?_
  refine xmv ?_
  refine xmv ?_
  refine x_pure rfl rfl rfl (L_index rfl rfl (by first|exact i_ro sl_29 ty_72|exact i_sl sl_29 ty_72)) ?_
  refine x_pure rfl rfl rfl (l_field rfl fo_72_2) ?_
  refine EOps_go rfl rfl (EOp_store rfl rfl rfl (xb1 ty_3) ?_)
  refine EOps_nil ?_
  refine G_region' (L:=[0,1,2]) rfl ?_
  refine xmv ?_
  refine x_pure rfl rfl rfl xb2 ?_
  refine xas ?_
  refine EOps_nil ?_
  simp only [Nat.zero_add,Int.toNat_natCast]
  refine (X_absorb (cs:=[.sc u0,.sc u1,.sc u2,.sc u3,.sc (.int .i64 (q+totM (ls.take k)+l.c.vals.length+l.c.rows.length+2*l.c.piv.length+l.tail.length))]) 0 k 0 2 1 rfl (setR_at xb10) rfl rfl rfl (by rw [ints_len,seqF_len]) (by decide) rfl).G fun _=>?_
  refine (X_absorb (cs:=[.sl (ints (seqF (q+totM (ls.take k)) l.c.vals.length)),.sc u1,.sc u2,.sc u3,.sc (.int .i64 (q+totM (ls.take k)+l.c.vals.length+l.c.rows.length+2*l.c.piv.length+l.tail.length))]) 0 k 1 4 3 rfl (setR_at xb10) rfl rfl rfl (by rw [ints_len,seqF_len]) (by decide) rfl).G fun _=>?_
  refine (X_absorb (cs:=[.sl (ints (seqF (q+totM (ls.take k)) l.c.vals.length)),.sl (ints (seqF (q+totM (ls.take k)+l.c.vals.length) l.c.rows.length)),.sc u2,.sc u3,.sc (.int .i64 (q+totM (ls.take k)+l.c.vals.length+l.c.rows.length+2*l.c.piv.length+l.tail.length))]) 0 k 2 6 5 rfl (setR_at xb10) rfl rfl rfl (by rw [pairs_len,seqP_len]) (by decide) rfl).G fun _=>?_
  refine (X_absorb (cs:=[.sl (ints (seqF (q+totM (ls.take k)) l.c.vals.length)),.sl (ints (seqF (q+totM (ls.take k)+l.c.vals.length) l.c.rows.length)),.sl (pairs (seqP (q+totM (ls.take k)+l.c.vals.length+l.c.rows.length) l.c.piv.length)),.sc u3,.sc (.int .i64 (q+totM (ls.take k)+l.c.vals.length+l.c.rows.length+2*l.c.piv.length+l.tail.length))]) 0 k 3 8 7 rfl (setR_at xb10) rfl rfl rfl (by rw [ints_len,seqF_len]) (by decide) rfl).G fun _=>?_
  refine G_region' (L:=[0,1,2]) rfl ?_
  refine xmv ?_
  refine x_pure rfl rfl rfl xb2 ?_
  refine xas ?_
  refine EOps_nil ?_
  refine⟨[],rfl,k+1,?_,?_,by
 simp only [List.set_set]
 rw [← over_set hlm hmk]; rfl, ⟨.inr rfl, .inr (int_eq (by rw [hst]; omega)), trivial⟩, ⟨.inr rfl, .inr rfl, trivial⟩⟩
  ·first|omega|(dsimp only;omega)|(simp;omega)
  ·first|trivial|omega|(dsimp only;omega)|(simp;omega)
 ·have hk1 : n ≤ k := by simpa using hc9
  have hk0:k=n:=by omega
  refine G_exit ?_
  refine G_seq ?_
  refine G_region' (L:=[0,1]) rfl ?_
  refine xmv ?_
  refine xas ?_
  refine EOps_nil ?_
  refine G_ret ?_
  subst hk0
  refine⟨_,[],rfl,rfl,?_,?_⟩
  ·rw [List.take_of_length_le (by omega)];rfl
  rw [over_full hlm (by omega)];rfl

end Go.Proofs.YthlhmpknngidmaaGreat.E
