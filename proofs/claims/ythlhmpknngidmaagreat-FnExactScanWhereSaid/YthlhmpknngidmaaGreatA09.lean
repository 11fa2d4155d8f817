/- Walks through functions, by program out of the session's annotations. -/
import Derived.Test.YthlhmpknngidmaaGreatA08
namespace Go.Proofs.YthlhmpknngidmaaGreat.E
open Go Go.RowKit Go.Proofs
set_option linter.unusedVariables false
set_option linter.unusedSimpArgs false

set_option maxRecDepth 20000 in
set_option maxHeartbeats 2000000 in
theorem c_laws_markIntS (e n : Nat) (q : Int) (xs : List Int) (hn : xs.length = n) (hb : n ≤ 1048576) (hq : 0 ≤ q ∧ q ≤ 1099511627776) : EFn Tryz.prog 27 [.c (.sl 0 0 n n), .c (.sc (.int .i64 q))] [.row e 1 (ints xs)] (fun r S => r = .c (.sc (.int .i64 (q + n))) ∧ S = [.row e 1 (ints (seqF q n))]) := by
 refine E_fn Tryz.func27 rfl (Nat.le_of_ble_eq_true rfl) ?_
 refine E_seq ?_
 refine E_region' (L:=[0]) rfl ?_
 refine xas ?_
 refine EOps_nil ?_
 refine E_seq ?_
 refine E_seq ?_
 refine E_region' (L:=[0]) rfl ?_
 refine xas ?_
 refine EOps_nil ?_
 refine E_block ?_
 refine e_for (α:=Nat) [0,4] (fun k=>[(5,.c (.sc (.int .i64 (k)))),(1,.c (.sc (.int .i64 ((q+k)))))]) (fun k=>[.row e 1 (ints (seqF q k++xs.drop k))]) (fun k=>k≤n) (fun k=>n - k) (0) ?_ (rfl) ⟨.inr rfl,.inr (int_eq (by simp)),trivial⟩ ?_
 ·simp
 rintro k hk
 have hlk:(ints (seqF q k++xs.drop k)).length=n:=by simp [ints_len,seqF_len];omega
 refine E_seq ?_
 refine E_seq ?_
 refine E_region' (L:=[0,1,2,3]) rfl ?_
 refine xmv ?_
 refine xmv ?_
 refine x_pure rfl rfl rfl (l_len rfl sl_22) ?_
 refine x_pure rfl rfl rfl (L_bin rfl rfl rfl rfl) ?_
 refine EOps_nil ?_
 refine E_cond rfl (fun hc9=>?_) (fun hc9=>?_)
 ·have hk0 : k < n := by simpa using hc9
  have hk':k<xs.length:=by omega
  obtain⟨x,hx,hx',hset⟩:=over_at (seqF_len q k) hk'
  refine E_skip ?_
  refine E_seq ?_
  refine E_block ?_
  refine E_seq ?_
  refine E_region' (L:=[0,1,2,3,4]) rfl ?_
  refine xmv ?_
  refine xmv ?_
  refine xmv ?_
  refine x_pure rfl rfl rfl (L_index rfl rfl (by first|exact i_ro sl_22 ty_3|exact i_sl sl_22 ty_3)) ?_
  refine EOps_go rfl rfl (EOp_store rfl rfl rfl (xb1 ty_3) ?_)
  refine EOps_nil ?_
  refine E_region' (L:=[0,1,2]) rfl ?_
  refine xmv ?_
  refine x_pure rfl rfl rfl xb2 ?_
  refine xas ?_
  refine EOps_nil ?_
  refine E_region' (L:=[0,1,2]) rfl ?_
  refine xmv ?_
  refine x_pure rfl rfl rfl xb2 ?_
  refine xas ?_
  refine EOps_nil ?_
  refine⟨k+1,?_,?_,by
 have hs:=hset (q+k)
 show [Res.row e 1 _]=[Res.row e 1 (ints ((seqF q k++[q+(k:Int)])++xs.drop (k+1)))]
 rw [← hs, ← ints_set]; simp [splice], ⟨.inr rfl, .inr (int_eq (by omega)), trivial⟩, ⟨.inr rfl, .inr rfl, trivial⟩⟩
  ·first|omega|(dsimp only;omega)|(simp;omega)
  ·first|trivial|omega|(dsimp only;omega)|(simp;omega)
 ·have hk1 : n ≤ k := by simpa using hc9
  have hk0:k=n:=by omega
  refine E_exit ?_
  refine E_seq ?_
  refine E_region' (L:=[0,1]) rfl ?_
  refine xmv ?_
  refine xas ?_
  refine EOps_nil ?_
  refine E_ret ?_
  subst hk0
  refine⟨_,[],rfl,rfl,rfl,?_⟩
  have hd:xs.drop k=[]:=List.drop_of_length_le (by omega)
  have hfin:seqF q k++xs.drop k=seqF q k:=by rw [hd,List.append_nil]
  rw [hfin];rfl

set_option maxRecDepth 20000 in
set_option maxHeartbeats 2000000 in
theorem c_laws_heldIntS (n : Nat) (q : Int) (hb : n ≤ 1048576) (hq : 0 ≤ q ∧ q ≤ 1099511627776) : EFn Tryz.prog 71 [.c (.ro (ints (seqF q n))), .c (.sc (.int .i64 q))] [] (fun r S => r = .c (.sc (.int .i64 (q + n))) ∧ S = []) := by
 refine E_fn Tryz.func71 rfl (Nat.le_of_ble_eq_true rfl) ?_
 refine E_seq ?_
 refine E_region' (L:=[0]) rfl ?_
 refine xas ?_
 refine EOps_nil ?_
 refine E_seq ?_
 refine E_seq ?_
 refine E_region' (L:=[0]) rfl ?_
 refine xas ?_
 refine EOps_nil ?_
 refine E_block ?_
 refine e_for (α:=Nat) [0] (fun k=>[(5,.c (.sc (.int .i64 (k)))),(1,.c (.sc (.int .i64 ((q+k)))))]) (fun _=>_) (fun k=>k≤n) (fun k=>n - k) (0) ?_ (rfl) ⟨.inr rfl,.inr (int_eq (by simp)),trivial⟩ ?_
 ·simp
 rintro k hk
 refine E_seq ?_
 refine E_seq ?_
 refine E_region' (L:=[0,1,2,3]) rfl ?_
 refine xmv ?_
 refine xmv ?_
 refine x_pure rfl rfl rfl (l_len rfl sl_22) ?_
 refine x_pure rfl rfl rfl (L_bin rfl rfl rfl rfl) ?_
 refine EOps_nil ?_
 refine E_cond rfl (fun hc9=>?_) (fun hc9=>?_)
 ·have hk' : k < n := by simpa [ints_len, seqF_len] using hc9
  have hx:=seqF_at q n k hk'
  refine E_skip ?_
  refine E_seq ?_
  refine E_block ?_
  refine E_seq ?_
  refine E_seq ?_
  refine E_region' (L:=[0,1,2,3,4,5]) rfl ?_
  refine xmv ?_
  refine xmv ?_
  refine x_pure rfl rfl rfl (L_index rfl rfl (by first|exact i_ro sl_22 ty_3|exact i_sl sl_22 ty_3)) ?_
  refine x_light rfl rfl rfl (L_load rfl (xb0 ty_3)) ?_
  refine xmv ?_
  refine x_pure rfl rfl rfl (L_bin rfl rfl rfl rfl) ?_
  refine EOps_nil ?_
  refine E_cond rfl (fun hc17=>?_) (fun hc17=>?_)
  ·simp at hc17
  ·refine E_skip ?_
   refine E_region' (L:=[0,1,2]) rfl ?_
   refine xmv ?_
   refine x_pure rfl rfl rfl xb2 ?_
   refine xas ?_
   refine EOps_nil ?_
   refine E_region' (L:=[0,1,2]) rfl ?_
   refine xmv ?_
   refine x_pure rfl rfl rfl xb2 ?_
   refine xas ?_
   refine EOps_nil ?_
   refine⟨k+1,?_,?_,rfl,⟨.inr rfl,.inr (int_eq (by omega)),trivial⟩,⟨.inr rfl,trivial⟩⟩
   ·first|omega|(dsimp only;omega)|(simp;omega)
   ·first|trivial|omega|(dsimp only;omega)|(simp;omega)
 ·have hk1 : n ≤ k := by simpa [ints_len, seqF_len] using hc9
  have hk0:k=n:=by omega
  refine E_exit ?_
  refine E_seq ?_
  refine E_region' (L:=[0,1]) rfl ?_
  refine xmv ?_
  refine xas ?_
  refine EOps_nil ?_
  refine E_ret ?_
  subst hk0
  exact⟨_,[],rfl,rfl,rfl,rfl⟩

end Go.Proofs.YthlhmpknngidmaaGreat.E
