/- Walks through functions, by program out of the session's annotations. -/
import Derived.Test.YtlodlnbhjghjoaaGreatA05
import Derived.Test.YtlodlnbhjghjoaaGreatA09
namespace Go.Proofs.YtlodlnbhjghjoaaGreat.E
open Go Go.RowKit Go.Proofs
set_option linter.unusedVariables false
set_option linter.unusedSimpArgs false

def seqV (q : Int) : Nat → List (Int × Int × Int × Int × Int)
 | 0=>[]
 | n+1=>seqV q n++[(q+5*n,q+5*n+1,q+5*n+1+1,q+5*n+1+1+1,q+5*n+1+1+1+1)]
theorem seqV_len (q : Int) : ∀ n, (seqV q n).length = n
 | 0=>rfl
 | n+1=>by simp [seqV,seqV_len q n]

set_option maxRecDepth 20000 in
set_option maxHeartbeats 2000000 in
theorem c_laws_eqCharge (a b : Int × Int × Int × Int × Int) : EFn Tryz.prog 95 [.agg [.sc (.int .i64 a.1), .sc (.int .i64 a.2.1), .sc (.int .i64 a.2.2.1), .sc (.int .i64 a.2.2.2.1), .sc (.int .i64 a.2.2.2.2)], .agg [.sc (.int .i64 b.1), .sc (.int .i64 b.2.1), .sc (.int .i64 b.2.2.1), .sc (.int .i64 b.2.2.2.1), .sc (.int .i64 b.2.2.2.2)]] [] (fun r S => r = .c (.sc (.bool (decide (a = b)))) ∧ S = []) := by
 refine E_fn Tryz.func95 rfl (Nat.le_of_ble_eq_true rfl) ?_
 obtain⟨a1,a2,a3,a4,a5⟩:=a
 obtain⟨b1,b2,b3,b4,b5⟩:=b
 refine E_seq ?_
 refine E_region' (L:=[0,1,2]) rfl ?_
 refine x_box rfl rfl rfl rfl rfl ?_
 refine x_box rfl rfl rfl rfl rfl ?_
 refine xas ?_
 refine EOps_nil ?_
 refine E_seq ?_
 refine E_seq ?_
 refine E_region' (L:=[0,1,2,3,4]) rfl ?_
 refine p_ rfl (l_field rfl fo_124_0) ?_
 refine l_ rfl (L_load rfl (xb0 ty_3)) ?_
 refine p_ rfl (l_field rfl fo_124_0) ?_
 refine l_ rfl (L_load rfl (xb0 ty_3)) ?_
 refine p_ rfl (L_bin rfl rfl rfl rfl) ?_
 refine EOps_nil ?_
 refine E_cond rfl (fun hc9=>?_) (fun hc9=>?_)
 ·refine E_seq ?_
  refine E_region' (L:=[0]) rfl ?_
  refine xas ?_
  refine EOps_nil ?_
  refine E_ret ?_
  refine⟨_,[],rfl,rfl,bool_eq ?_,rfl⟩
  simp_all [tc]
 refine E_skip ?_
 refine E_seq ?_
 refine E_seq ?_
 refine E_region' (L:=[0,1,2,3,4]) rfl ?_
 refine p_ rfl (l_field rfl fo_124_1) ?_
 refine l_ rfl (L_load rfl (xb0 ty_3)) ?_
 refine p_ rfl (l_field rfl fo_124_1) ?_
 refine l_ rfl (L_load rfl (xb0 ty_3)) ?_
 refine p_ rfl (L_bin rfl rfl rfl rfl) ?_
 refine EOps_nil ?_
 refine E_cond rfl (fun hc14=>?_) (fun hc14=>?_)
 ·refine E_seq ?_
  refine E_region' (L:=[0]) rfl ?_
  refine xas ?_
  refine EOps_nil ?_
  refine E_ret ?_
  refine⟨_,[],rfl,rfl,bool_eq ?_,rfl⟩
  simp_all [tc]
 refine E_skip ?_
 refine E_seq ?_
 refine E_seq ?_
 refine E_region' (L:=[0,1,2,3,4]) rfl ?_
 refine p_ rfl (l_field rfl fo_124_2) ?_
 refine l_ rfl (L_load rfl (xb0 ty_3)) ?_
 refine p_ rfl (l_field rfl fo_124_2) ?_
 refine l_ rfl (L_load rfl (xb0 ty_3)) ?_
 refine p_ rfl (L_bin rfl rfl rfl rfl) ?_
 refine EOps_nil ?_
 refine E_cond rfl (fun hc19=>?_) (fun hc19=>?_)
 ·refine E_seq ?_
  refine E_region' (L:=[0]) rfl ?_
  refine xas ?_
  refine EOps_nil ?_
  refine E_ret ?_
  refine⟨_,[],rfl,rfl,bool_eq ?_,rfl⟩
  simp_all [tc]
 refine E_skip ?_
 refine E_seq ?_
 refine E_seq ?_
 refine E_region' (L:=[0,1,2,3,4]) rfl ?_
 refine p_ rfl (l_field rfl fo_124_3) ?_
 refine l_ rfl (L_load rfl (xb0 ty_3)) ?_
 refine p_ rfl (l_field rfl fo_124_3) ?_
 refine l_ rfl (L_load rfl (xb0 ty_3)) ?_
 refine p_ rfl (L_bin rfl rfl rfl rfl) ?_
 refine EOps_nil ?_
 refine E_cond rfl (fun hc24=>?_) (fun hc24=>?_)
 ·refine E_seq ?_
  refine E_region' (L:=[0]) rfl ?_
  refine xas ?_
  refine EOps_nil ?_
  refine E_ret ?_
  refine⟨_,[],rfl,rfl,bool_eq ?_,rfl⟩
  simp_all [tc]
 refine E_skip ?_
 refine E_seq ?_
 refine E_seq ?_
 refine E_region' (L:=[0,1,2,3,4]) rfl ?_
 refine p_ rfl (l_field rfl fo_124_4) ?_
 refine l_ rfl (L_load rfl (xb0 ty_3)) ?_
 refine p_ rfl (l_field rfl fo_124_4) ?_
 refine l_ rfl (L_load rfl (xb0 ty_3)) ?_
 refine p_ rfl (L_bin rfl rfl rfl rfl) ?_
 refine EOps_nil ?_
 refine E_cond rfl (fun hc29=>?_) (fun hc29=>?_)
 ·refine E_seq ?_
  refine E_region' (L:=[0]) rfl ?_
  refine xas ?_
  refine EOps_nil ?_
  refine E_ret ?_
  refine⟨_,[],rfl,rfl,bool_eq ?_,rfl⟩
  simp_all [tc]
 refine E_skip ?_
 refine E_seq ?_
 refine E_region' (L:=[0]) rfl ?_
 refine xas ?_
 refine EOps_nil ?_
 refine E_ret ?_
 refine⟨_,[],rfl,rfl,bool_eq ?_,rfl⟩
 simp_all [tc]

set_option maxRecDepth 20000 in
set_option maxHeartbeats 2000000 in
theorem c_laws_eqChargeS (xs ys : List (Int × Int × Int × Int × Int)) : EFn Tryz.prog 18 [.c (.ro (quints xs)), .c (.ro (quints ys))] [] (fun r S => r = .c (.sc (.bool (decide (xs = ys)))) ∧ S = []) := by
 refine E_fn Tryz.func18 rfl (Nat.le_of_ble_eq_true rfl) ?_
 refine E_bound (t:=0) (rows:=quints xs) rfl fun hb=>?_
 rw [quints_len] at hb
 refine E_seq ?_
 refine E_region' (L:=[0]) rfl ?_
 refine xas ?_
 refine EOps_nil ?_
 refine E_seq ?_
 refine E_seq ?_
 refine E_region' (L:=[0,1,2,3,4]) rfl ?_
 refine xmv ?_
 refine p_ rfl (l_len rfl sl_27) ?_
 refine xmv ?_
 refine p_ rfl (l_len rfl sl_27) ?_
 refine p_ rfl (L_bin rfl rfl rfl rfl) ?_
 refine EOps_nil ?_
 refine E_cond rfl (fun hc10=>?_) (fun hc10=>?_)
 ·have hne : xs ≠ ys := fun e => by subst e; simp at hc10
  refine E_seq ?_
  refine E_region' (L:=[0]) rfl ?_
  refine xas ?_
  refine EOps_nil ?_
  refine E_ret ?_
  refine⟨_,[],rfl,rfl,?_,rfl⟩
  simp [AV.ren,ren_sc,ren_ro,AC.ren,AC.ren.rens,ix,rv1,E.get,E.ev,E.cv,E.fill',E.fill,E.slotsOf,hne]
 have hlen : xs.length = ys.length := by simp [quints_len] at hc10; omega
 refine E_skip ?_
 refine E_seq ?_
 refine E_seq ?_
 refine E_region' (L:=[0]) rfl ?_
 refine xas ?_
 refine EOps_nil ?_
 refine E_block ?_
 refine e_for (α:=Nat) [0,1,10] (fun k=>[(5,.c (.sc (.int .i64 (k))))]) (fun _=>_) (fun k=>k≤xs.length∧xs.take k=ys.take k) (fun k=>xs.length - k) (0) ?_ (rfl) ⟨.inr rfl,trivial⟩ ?_
 ·simp
 rintro k ⟨hk,htk⟩
 refine E_seq ?_
 refine E_seq ?_
 refine E_region' (L:=[0,1,2,3]) rfl ?_
 refine xmv ?_
 refine xmv ?_
 refine p_ rfl (l_len rfl sl_27) ?_
 refine p_ rfl (L_bin rfl rfl rfl rfl) ?_
 refine EOps_nil ?_
 refine E_cond rfl (fun hc14=>?_) (fun hc14=>?_)
 ·have hc14' : k < (xs).length := by simpa [ints_len, bools_len, pairs_len, quads_len, quints_len] using hc14
  obtain⟨x,hx⟩:∃ x,(xs)[k]? = some x:=⟨_,List.getElem?_eq_getElem hc14'⟩
  obtain⟨y,hy⟩:∃ y,ys[k]? = some y:=⟨_,List.getElem?_eq_getElem (hlen ▸ hc14')⟩
  refine E_skip ?_
  refine E_seq ?_
  refine E_block ?_
  refine E_seq ?_
  refine E_drawT mixed ?_
  refine tj_ 0 rfl (L_move rfl) ?_
  refine tj_ 1 rfl (L_move rfl) ?_
  refine tj_ 2 rfl (L_index rfl rfl (xii sl_27 ty_124)) ?_
  refine tl_ 3 rfl (L_load rfl (xb0 ty_124)) ?_
  refine tj_ 4 rfl (L_move rfl) ?_
  refine tj_ 5 rfl (L_move rfl) ?_
  refine tj_ 6 rfl (L_index rfl rfl (xii sl_27 ty_124)) ?_
  refine tl_ 7 rfl (L_load rfl (xb0 ty_124)) ?_
  refine t_call 8 rfl rfl rfl rfl rfl ca_95 (c_laws_eqCharge x y) ?_
  rintro r S ⟨rfl,rfl⟩
  refine tj_ 9 rfl (L_not rfl rfl) ?_
  refine T_done (by kernel_rfl) ?_
  refine E_cond rfl (fun hc26=>?_) (fun hc26=>?_)
  ·have hne : xs ≠ ys := fun e => by subst e; rw [hx] at hy; cases hy; simp at hc26
   refine E_seq ?_
   refine E_region' (L:=[0]) rfl ?_
   refine xas ?_
   refine EOps_nil ?_
   refine E_ret ?_
   refine⟨_,[],rfl,rfl,?_,rfl⟩
   simp [AV.ren,ren_sc,ren_ro,AC.ren,AC.ren.rens,ix,rv1,E.get,E.ev,E.cv,E.fill',E.fill,E.slotsOf,hne]
  have hxy : x = y := by simpa using hc26
  refine E_skip ?_
  refine E_region' (L:=[0,1,2]) rfl ?_
  refine xmv ?_
  refine p_ rfl xb3 ?_
  refine xas ?_
  refine EOps_nil ?_
  refine⟨k+1,?_,?_,rfl,⟨.inr rfl,trivial⟩,⟨.inr rfl,.inr rfl,.inr rfl,trivial⟩⟩
  ·first|omega|(dsimp only;omega)|(simp;omega)
  exact⟨by omega,by rw [List.take_add_one,List.take_add_one,htk,hx,hy,hxy]⟩
 have hk' : xs.length ≤ k := by simpa [quints_len] using hc14
 have heq:xs=ys:=by rw [List.take_of_length_le hk',List.take_of_length_le (by omega)] at htk;exact htk
 refine E_exit ?_
 refine E_seq ?_
 refine E_region' (L:=[0]) rfl ?_
 refine xas ?_
 refine EOps_nil ?_
 refine E_ret ?_
 refine⟨_,[],rfl,rfl,?_,rfl⟩
 simp [AV.ren,ren_sc,ren_ro,AC.ren,AC.ren.rens,ix,rv1,E.get,E.ev,E.cv,E.fill',E.fill,E.slotsOf,heq]

set_option maxRecDepth 20000 in
set_option maxHeartbeats 2000000 in
theorem c_laws_markChargeS (e n : Nat) (q : Int) (xs : List (Int × Int × Int × Int × Int)) (hn : xs.length = n) (hb : n ≤ 1048576) (hq : 0 ≤ q ∧ q ≤ 1099511627776) : EFn Tryz.prog 23 [.c (.sl 0 0 n n), .c (.sc (.int .i64 q))] [.row e 5 (quints xs)] (fun r S => r = .c (.sc (.int .i64 (q + 5 * n))) ∧ S = [.row e 5 (quints (seqV q n))]) := by
 refine E_fn Tryz.func23 rfl (Nat.le_of_ble_eq_true rfl) ?_
 refine E_seq ?_
 refine E_region' (L:=[0]) rfl ?_
 refine xas ?_
 refine EOps_nil ?_
 refine E_seq ?_
 refine E_seq ?_
 refine E_region' (L:=[0]) rfl ?_
 refine xas ?_
 refine EOps_nil ?_
 refine E_block ?_
 refine e_for (α:=Nat) [0,4] (fun k=>[(5,.c (.sc (.int .i64 (k)))),(1,.c (.sc (.int .i64 ((q+5*k)))))]) (fun k=>[.row e 5 (quints (seqV q k++xs.drop k))]) (fun k=>k≤n) (fun k=>n - k) (0) ?_ (rfl) ⟨.inr rfl,.inr (int_eq (by simp)),trivial⟩ ?_
 ·simp
 rintro k hk
 have hlk:(quints (seqV q k++xs.drop k)).length=n:=by simp [quints_len,seqV_len];omega
 refine E_seq ?_
 refine E_seq ?_
 refine E_region' (L:=[0,1,2,3]) rfl ?_
 refine xmv ?_
 refine xmv ?_
 refine p_ rfl (l_len rfl sl_27) ?_
 refine p_ rfl (L_bin rfl rfl rfl rfl) ?_
 refine EOps_nil ?_
 refine E_cond rfl (fun hc9=>?_) (fun hc9=>?_)
 ·have hk0 : k < n := by simpa using hc9
  have hk':k<xs.length:=by omega
  obtain⟨x,hx,hx',hset⟩:=over_at (seqV_len q k) hk'
  refine E_skip ?_
  refine E_seq ?_
  refine E_block ?_
  refine E_seq ?_
  refine E_region' (L:=[0,1,2,3,4,5]) rfl ?_
  refine xmv ?_
  refine xmv ?_
  refine xmv ?_
  refine p_ rfl (L_index rfl rfl (xii sl_27 ty_124)) ?_
  refine p_ rfl (l_field rfl fo_124_0) ?_
  refine EOps_go rfl rfl (EOp_store rfl rfl rfl (xb1 ty_3) ?_)
  refine EOps_nil ?_
  refine E_seq ?_
  refine E_region' (L:=[0,1,2]) rfl ?_
  refine xmv ?_
  refine p_ rfl xb3 ?_
  refine xas ?_
  refine EOps_nil ?_
  refine E_seq ?_
  refine E_region' (L:=[0,1,2,3,4,5]) rfl ?_
  refine xmv ?_
  refine xmv ?_
  refine xmv ?_
  refine p_ rfl (L_index rfl rfl (xii sl_27 ty_124)) ?_
  refine p_ rfl (l_field rfl fo_124_1) ?_
  refine EOps_go rfl rfl (EOp_store rfl rfl rfl (xb1 ty_3) ?_)
  refine EOps_nil ?_
  refine E_seq ?_
  refine E_region' (L:=[0,1,2]) rfl ?_
  refine xmv ?_
  refine p_ rfl xb3 ?_
  refine xas ?_
  refine EOps_nil ?_
  refine E_seq ?_
  refine E_region' (L:=[0,1,2,3,4,5]) rfl ?_
  refine xmv ?_
  refine xmv ?_
  refine xmv ?_
  refine p_ rfl (L_index rfl rfl (xii sl_27 ty_124)) ?_
  refine p_ rfl (l_field rfl fo_124_2) ?_
  refine x_store rfl rfl rfl rfl rfl (s_ep ty_3 (hr:=List.getElem?_set_self (by simp only [List.length_set];omega))) ?_
  refine EOps_nil ?_
  refine E_seq ?_
  refine E_region' (L:=[0,1,2]) rfl ?_
  refine xmv ?_
  refine p_ rfl xb3 ?_
  refine xas ?_
  refine EOps_nil ?_
  refine E_seq ?_
  refine E_region' (L:=[0,1,2,3,4,5]) rfl ?_
  refine xmv ?_
  refine xmv ?_
  refine xmv ?_
  refine p_ rfl (L_index rfl rfl (xii sl_27 ty_124)) ?_
  refine p_ rfl (l_field rfl fo_124_3) ?_
  refine x_store rfl rfl rfl rfl rfl (s_ep ty_3 (hr:=List.getElem?_set_self (by simp only [List.length_set];omega))) ?_
  refine EOps_nil ?_
  refine E_seq ?_
  refine E_region' (L:=[0,1,2]) rfl ?_
  refine xmv ?_
  refine p_ rfl xb3 ?_
  refine xas ?_
  refine EOps_nil ?_
  refine E_seq ?_
  refine E_region' (L:=[0,1,2,3,4,5]) rfl ?_
  refine xmv ?_
  refine xmv ?_
  refine xmv ?_
  refine p_ rfl (L_index rfl rfl (xii sl_27 ty_124)) ?_
  refine p_ rfl (l_field rfl fo_124_4) ?_
  refine x_store rfl rfl rfl rfl rfl (s_ep ty_3 (hr:=List.getElem?_set_self (by simp only [List.length_set];omega))) ?_
  refine EOps_nil ?_
  refine E_region' (L:=[0,1,2]) rfl ?_
  refine xmv ?_
  refine p_ rfl xb3 ?_
  refine xas ?_
  refine EOps_nil ?_
  refine E_region' (L:=[0,1,2]) rfl ?_
  refine xmv ?_
  refine p_ rfl xb3 ?_
  refine xas ?_
  refine EOps_nil ?_
  refine⟨k+1,?_,?_,by
 have hs:=hset (q+5*k,q+5*k+1,q+5*k+1+1,q+5*k+1+1+1,q+5*k+1+1+1+1)
 show [Res.row e 5 _]=[Res.row e 5 (quints ((seqV q k++[(q+5*(k:Int),q+5*(k:Int)+1,q+5*(k:Int)+1+1,q+5*(k:Int)+1+1+1,q+5*(k:Int)+1+1+1+1)])++xs.drop (k+1)))]
 rw [← hs, ← quints_set]; simp [splice], ⟨.inr rfl, .inr (int_eq (by omega)), trivial⟩, ⟨.inr rfl, .inr rfl, trivial⟩⟩
  ·first|omega|(dsimp only;omega)|(simp;omega)
  first|trivial|omega|(dsimp only;omega)|(simp;omega)
 ·have hk1 : n ≤ k := by simpa using hc9
  have hk0:k=n:=by omega
  refine E_exit ?_
  refine E_seq ?_
  refine E_region' (L:=[0,1]) rfl ?_
  refine xmv ?_
  refine xas ?_
  refine EOps_nil ?_
  refine E_ret ?_
  subst hk0
  refine⟨_,[],rfl,rfl,rfl,?_⟩
  have hd:xs.drop k=[]:=List.drop_of_length_le (by omega)
  have hfin:seqV q k++xs.drop k=seqV q k:=by rw [hd,List.append_nil]
  rw [hfin];rfl

end Go.Proofs.YtlodlnbhjghjoaaGreat.E
