/- Walks through functions, by program out of the session's annotations. -/
import Derived.Test.YthlhmpknngidmaaGreatA213
namespace Go.Proofs.YthlhmpknngidmaaGreat.E
open Go Go.RowKit Go.Proofs
set_option linter.unusedVariables false
set_option linter.unusedSimpArgs false

def seqT (q : Int) : Nat → List (Int × Int × Int)
 | 0=>[]
 | n+1=>seqT q n++[(q+3*n,q+3*n+1,q+3*n+1+1)]
theorem seqT_len (q : Int) : ∀ n, (seqT q n).length = n
 | 0=>rfl
 | n+1=>by simp [seqT,seqT_len q n]
theorem seqT_at (q : Int) : ∀ (n k : Nat), k < n → (seqT q n)[k]? = some (q + 3 * k, q + 3 * k + 1, q + 3 * k + 1 + 1)
 | n + 1, k, h => by
  unfold seqT
  rcases Nat.lt_or_ge k n with h'|h'
  ·rw [List.getElem?_append_left (by rw [seqT_len];exact h')];exact seqT_at q n k h'
  ·have : k = n := by omega
   subst this
   rw [List.getElem?_append_right (by rw [seqT_len];omega),seqT_len];simp

set_option maxRecDepth 20000 in
set_option maxHeartbeats 2000000 in
theorem c_laws_szFilterS (xs : List (Int × Int × Int)) (left : Int) (hl : -1 ≤ left ∧ left ≤ 1048576) : EFn Tryz.prog 17 [.c (.ro (trips xs)), .c (.sc (.int .i64 left))] [] (fun r S => r = .c (.sc (.int .i64 (szR left xs.length))) ∧ S = []) := by
 refine E_fn Tryz.func17 rfl (Nat.le_of_ble_eq_true rfl) ?_
 refine E_bound (t:=0) (rows:=trips xs) rfl fun hb=>?_
 rw [trips_len] at hb
 have htl:=trips_len xs
 refine E_seq ?_
 refine E_region' (L:=[0]) rfl ?_
 refine xas ?_
 refine EOps_nil ?_
 refine E_seq ?_
 refine E_region' (L:=[0,1,2,3,4]) rfl ?_
 refine xmv ?_
 refine xmv ?_
 refine x_pure rfl rfl rfl (l_len rfl sl_40) ?_
 refine x_pure rfl rfl rfl xb5 ?_
 refine xas ?_
 refine EOps_nil ?_
 refine E_seq ?_
 refine E_seq ?_
 refine E_region' (L:=[0,1]) rfl ?_
 refine xmv ?_
 refine x_pure rfl rfl rfl (L_bin rfl rfl rfl rfl) ?_
 refine EOps_nil ?_
 refine E_cond rfl (fun hc10=>?_) (fun hc10=>?_)
 ·have h1 : left - xs.length < 0 := by simpa [trips_len] using hc10
  refine E_seq ?_
  refine E_region' (L:=[0]) rfl ?_
  refine xas ?_
  refine EOps_nil ?_
  refine E_ret ?_
  refine⟨_,[],rfl,rfl,int_eq ?_,rfl⟩
  rw [szR,if_pos h1]
 ·have h1 : ¬ left - xs.length < 0 := by simpa [trips_len] using hc10
  refine E_skip ?_
  refine E_seq ?_
  refine E_region' (L:=[0,1]) rfl ?_
  refine xmv ?_
  refine xas ?_
  refine EOps_nil ?_
  refine E_ret ?_
  refine⟨_,[],rfl,rfl,int_eq ?_,rfl⟩
  rw [szR,if_neg h1,← trips_len]

set_option maxRecDepth 20000 in
set_option maxHeartbeats 2000000 in
theorem c_laws_toFilter (f : Int × Int × Int) : EFn Tryz.prog 76 [.agg [.sc (.int .i64 f.1), .sc (.int .i64 f.2.1), .sc (.int .i64 f.2.2)]] [] (fun r S => r = .agg [.sc (.int .i64 f.1), .sc (.int .i64 f.2.1), .sc (.int .i64 f.2.2)] ∧ S = []) := by
 refine E_fn Tryz.func76 rfl (Nat.le_of_ble_eq_true rfl) ?_
 refine E_seq ?_
 refine E_region' (L:=[0,1]) rfl ?_
 refine x_box rfl rfl rfl rfl rfl ?_
 refine x_alloc rfl rfl rfl rfl za_104 ?_
 refine EOps_nil ?_
 refine E_seq ?_
 refine E_region' (L:=[0]) rfl ?_
 refine x_alloc rfl rfl rfl rfl za_104 ?_
 refine EOps_nil ?_
 refine E_seq ?_
 refine E_region' (L:=[0,1,2,3]) rfl ?_
 refine x_pure rfl rfl rfl (l_field rfl fo_107_0) ?_
 refine x_light rfl rfl rfl (L_load rfl (xb0 ty_3)) ?_
 refine x_pure rfl rfl rfl (l_field rfl fo_104_0) ?_
 refine EOps_go rfl rfl (EOp_store rfl rfl rfl (xb1 ty_3) ?_)
 refine EOps_nil ?_
 refine E_seq ?_
 refine e_tidy [0,1,2,3] ?_
 refine E_region' (L:=[0,1,2,3,4]) rfl ?_
 refine x_pure rfl rfl rfl (l_field rfl fo_107_1) ?_
 refine x_light rfl rfl rfl (L_load rfl (xb0 ty_39)) ?_
 refine x_call rfl rfl rfl rfl rfl ca_19 (c_laws_toRange f.2.1 f.2.2) ?_
 rintro r S ⟨rfl,rfl⟩
 refine x_pure rfl rfl rfl (l_field rfl fo_104_1) ?_
 refine EOps_go rfl rfl (EOp_store rfl rfl rfl (xb1 ty_43) ?_)
 refine EOps_nil ?_
 refine E_seq ?_
 refine E_region' (L:=[0,1]) rfl ?_
 refine x_light rfl rfl rfl (L_load rfl (xb0 ty_104)) ?_
 refine EOps_go rfl rfl (EOp_store rfl rfl rfl (xb1 ty_104) ?_)
 refine EOps_nil ?_
 refine E_ret ?_
 exact⟨_,[],rfl,rfl,rfl,rfl⟩

set_option maxRecDepth 20000 in
set_option maxHeartbeats 2000000 in
theorem c_laws_toFilterS (xs : List (Int × Int × Int)) (hn : xs.length ≤ 1048576) : EFn Tryz.prog 20 [.c (.ro (trips xs))] [] (fun r S => r = .c (.sl 0 0 xs.length xs.length) ∧ S = [.row 104 3 (trips xs)]) := by
 refine E_fn Tryz.func20 rfl (Nat.le_of_ble_eq_true rfl) ?_
 refine E_G (n:=0) rfl ?_
 have hnl:=trips_len xs
 refine G_seq ?_
 refine G_region' (L:=[0]) rfl ?_
 refine xas ?_
 refine EOps_nil ?_
 refine G_seq ?_
 refine G_region' (L:=[0,1,2,3]) rfl ?_
 refine xmv ?_
 refine x_pure rfl rfl rfl (l_len rfl sl_40) ?_
 refine EOps_go rfl rfl (Heavy.op (H_make rfl rfl (by decide) rfl rfl sl_45 ty_104 by_104 za_104 ⟨rfl,by decide⟩ (by simp [trips_len];omega) ?_))
 refine xas ?_
 refine EOps_nil ?_
 refine G_seq ?_
 refine G_seq ?_
 refine G_region' (L:=[0]) rfl ?_
 refine xas ?_
 refine EOps_nil ?_
 refine G_block ?_
 refine g_forD (α:=Nat) [0,2,3] (fun k=>[(4,.c (.sc (.int .i64 (k))))]) (fun k=>[.row 104 3 (fillR (trips xs) [.sc (.int .i64 0),.sc (.int .i64 0),.sc (.int .i64 0)] k)]) (fun k=>k≤xs.length) (fun k=>xs.length - k) (0) ?_ (by rw [fill_zero];simp [zT]) ⟨.inr rfl,trivial⟩ ?_
 ·simp
 rintro k hk
 refine G_seq ?_
 refine G_seq ?_
 refine G_region' (L:=[0,1,2,3]) rfl ?_
 refine xmv ?_
 refine xmv ?_
 refine x_pure rfl rfl rfl (l_len rfl sl_40) ?_
 refine x_pure rfl rfl rfl (L_bin rfl rfl rfl rfl) ?_
 refine EOps_nil ?_
 refine G_cond rfl (fun hc11=>?_) (fun hc11=>?_)
 ·have hk1 : k < xs.length := by simpa [trips_len] using hc11
  obtain⟨x,hx⟩:=at_lt hk1
  have hbx:=trips_at hx
  have hfl:(fillR (trips xs) [.sc (.int .i64 0),.sc (.int .i64 0),.sc (.int .i64 0)] k).length=(trips xs).length:=fill_len (by omega)
  have hfa:(fillR (trips xs) [.sc (.int .i64 0),.sc (.int .i64 0),.sc (.int .i64 0)] k)[k]? = some [.sc (.int .i64 0),.sc (.int .i64 0),.sc (.int .i64 0)]:=fill_at (by omega)
  refine G_skip ?_
  refine G_seq ?_
  refine G_block ?_
  refine G_region' (L:=[0,1,2,3,4,5,6,7,8]) rfl ?_
  refine xmv ?_
  refine xmv ?_
  refine xmv ?_
  refine xmv ?_
  refine x_pure rfl rfl rfl (L_index rfl rfl (by first|exact i_ro sl_40 ty_107|exact i_sl sl_40 ty_107)) ?_
  refine x_light rfl rfl rfl (L_load rfl (xb0 ty_107)) ?_
  refine x_call rfl rfl rfl rfl rfl ca_76 (c_laws_toFilter x) ?_
  rintro r S ⟨rfl,rfl⟩
  refine x_pure rfl rfl rfl (L_index rfl rfl (by first|exact i_ro sl_45 ty_104|exact i_sl sl_45 ty_104)) ?_
  refine EOps_go rfl rfl (EOp_store rfl rfl rfl (xb1 ty_104) ?_)
  refine EOps_nil ?_
  refine G_region' (L:=[0,1,2]) rfl ?_
  refine xmv ?_
  refine x_pure rfl rfl rfl xb2 ?_
  refine xas ?_
  refine EOps_nil ?_
  refine⟨[0],rfl,k+1,?_,?_,by
 show [Res.row 104 3 _]=[Res.row 104 3 (fillR (trips xs) [.sc (.int .i64 0),.sc (.int .i64 0),.sc (.int .i64 0)] (k+1))]
 rw [← fill_set hbx]; simp [splice], ⟨.inr rfl, trivial⟩, ⟨.inr rfl, .inr rfl, .inr rfl, trivial⟩⟩
  ·first|omega|(dsimp only;omega)|(simp;omega)
  ·first|trivial|omega|(dsimp only;omega)|(simp;omega)
 ·have hk' : xs.length ≤ k := by simpa [trips_len] using hc11
  refine G_exit ?_
  refine G_seq ?_
  refine G_region' (L:=[0,1]) rfl ?_
  refine xmv ?_
  refine xas ?_
  refine EOps_nil ?_
  refine G_ret ?_
  refine⟨_,[0],rfl,rfl,?_,?_⟩
  ·simp [AV.ren,ren_sc,ren_ro,AC.ren,AC.ren.rens,ix,rv1,E.get,E.ev,E.cv,E.fill',E.fill,E.slotsOf,trips_len]
  ·simp [reR,Res.ren,fill_full (rows:=trips xs) (k:=k) (by omega)]

set_option maxRecDepth 20000 in
set_option maxHeartbeats 2000000 in
theorem c_laws_eqRange (a b : Int × Int) : EFn Tryz.prog 135 [.agg [.sc (.int .i64 a.1), .sc (.int .i64 a.2)], .agg [.sc (.int .i64 b.1), .sc (.int .i64 b.2)]] [] (fun r S => r = .c (.sc (.bool (decide (a = b)))) ∧ S = []) := by
 refine E_fn Tryz.func135 rfl (Nat.le_of_ble_eq_true rfl) ?_
 obtain⟨a1,a2⟩:=a
 obtain⟨b1,b2⟩:=b
 refine E_seq ?_
 refine E_region' (L:=[0,1,2]) rfl ?_
 refine x_box rfl rfl rfl rfl rfl ?_
 refine x_box rfl rfl rfl rfl rfl ?_
 refine xas ?_
 refine EOps_nil ?_
 refine E_seq ?_
 refine E_seq ?_
 refine E_region' (L:=[0,1,2,3,4]) rfl ?_
 refine x_pure rfl rfl rfl (l_field rfl fo_43_0) ?_
 refine x_light rfl rfl rfl (L_load rfl (xb0 ty_3)) ?_
 refine x_pure rfl rfl rfl (l_field rfl fo_43_0) ?_
 refine x_light rfl rfl rfl (L_load rfl (xb0 ty_3)) ?_
 refine x_pure rfl rfl rfl (L_bin rfl rfl rfl rfl) ?_
 refine EOps_nil ?_
 refine E_cond rfl (fun hc9=>?_) (fun hc9=>?_)
 ·refine E_seq ?_
  refine E_region' (L:=[0]) rfl ?_
  refine xas ?_
  refine EOps_nil ?_
  refine E_ret ?_
  refine⟨_,[],rfl,rfl,bool_eq ?_,rfl⟩
  simp_all [tc]
 ·refine E_skip ?_
  refine E_seq ?_
  refine E_seq ?_
  refine E_region' (L:=[0,1,2,3,4]) rfl ?_
  refine x_pure rfl rfl rfl (l_field rfl fo_43_1) ?_
  refine x_light rfl rfl rfl (L_load rfl (xb0 ty_3)) ?_
  refine x_pure rfl rfl rfl (l_field rfl fo_43_1) ?_
  refine x_light rfl rfl rfl (L_load rfl (xb0 ty_3)) ?_
  refine x_pure rfl rfl rfl (L_bin rfl rfl rfl rfl) ?_
  refine EOps_nil ?_
  refine E_cond rfl (fun hc14=>?_) (fun hc14=>?_)
  ·refine E_seq ?_
   refine E_region' (L:=[0]) rfl ?_
   refine xas ?_
   refine EOps_nil ?_
   refine E_ret ?_
   refine⟨_,[],rfl,rfl,bool_eq ?_,rfl⟩
   simp_all [tc]
  ·refine E_skip ?_
   refine E_seq ?_
   refine E_region' (L:=[0]) rfl ?_
   refine xas ?_
   refine EOps_nil ?_
   refine E_ret ?_
   refine⟨_,[],rfl,rfl,bool_eq ?_,rfl⟩
   simp_all [tc]

set_option maxRecDepth 20000 in
set_option maxHeartbeats 2000000 in
theorem c_laws_eqFilter (a b : Int × Int × Int) : EFn Tryz.prog 81 [.agg [.sc (.int .i64 a.1), .sc (.int .i64 a.2.1), .sc (.int .i64 a.2.2)], .agg [.sc (.int .i64 b.1), .sc (.int .i64 b.2.1), .sc (.int .i64 b.2.2)]] [] (fun r S => r = .c (.sc (.bool (decide (a = b)))) ∧ S = []) := by
 refine E_fn Tryz.func81 rfl (Nat.le_of_ble_eq_true rfl) ?_
 obtain⟨a1,a2⟩:=a
 obtain⟨b1,b2⟩:=b
 dsimp only
 refine E_seq ?_
 refine E_region' (L:=[0,1,2]) rfl ?_
 refine x_box rfl rfl rfl rfl rfl ?_
 refine x_box rfl rfl rfl rfl rfl ?_
 refine xas ?_
 refine EOps_nil ?_
 refine E_seq ?_
 refine E_seq ?_
 refine E_region' (L:=[0,1,2,3,4]) rfl ?_
 refine x_pure rfl rfl rfl (l_field rfl fo_104_0) ?_
 refine x_light rfl rfl rfl (L_load rfl (xb0 ty_3)) ?_
 refine x_pure rfl rfl rfl (l_field rfl fo_104_0) ?_
 refine x_light rfl rfl rfl (L_load rfl (xb0 ty_3)) ?_
 refine x_pure rfl rfl rfl (L_bin rfl rfl rfl rfl) ?_
 refine EOps_nil ?_
 refine E_cond rfl (fun hc9=>?_) (fun hc9=>?_)
 ·refine E_seq ?_
  refine E_region' (L:=[0]) rfl ?_
  refine xas ?_
  refine EOps_nil ?_
  refine E_ret ?_
  refine⟨_,[],rfl,rfl,bool_eq ?_,rfl⟩
  simp_all
 ·refine E_skip ?_
  refine E_seq ?_
  refine E_seq ?_
  refine e_tidy [0,1,2,3,4,9] ?_
  refine E_region' (L:=[0,1,2,3,4,5]) rfl ?_
  refine x_pure rfl rfl rfl (l_field rfl fo_104_1) ?_
  refine x_light rfl rfl rfl (L_load rfl (xb0 ty_43)) ?_
  refine x_pure rfl rfl rfl (l_field rfl fo_104_1) ?_
  refine x_light rfl rfl rfl (L_load rfl (xb0 ty_43)) ?_
  refine x_call rfl rfl rfl rfl rfl ca_135 (c_laws_eqRange a2 b2) ?_
  rintro r S ⟨rfl,rfl⟩
  refine x_pure rfl rfl rfl (L_not rfl rfl) ?_
  refine EOps_nil ?_
  refine E_cond rfl (fun hc15=>?_) (fun hc15=>?_)
  ·refine E_seq ?_
   refine E_region' (L:=[0]) rfl ?_
   refine xas ?_
   refine EOps_nil ?_
   refine E_ret ?_
   refine⟨_,[],rfl,rfl,bool_eq ?_,rfl⟩
   simp_all
  ·refine E_skip ?_
   refine E_seq ?_
   refine E_region' (L:=[0]) rfl ?_
   refine xas ?_
   refine EOps_nil ?_
   refine E_ret ?_
   refine⟨_,[],rfl,rfl,bool_eq ?_,rfl⟩
   simp_all

set_option maxRecDepth 20000 in
set_option maxHeartbeats 2000000 in
theorem c_laws_eqFilterS (xs ys : List (Int × Int × Int)) : EFn Tryz.prog 24 [.c (.ro (trips xs)), .c (.ro (trips ys))] [] (fun r S => r = .c (.sc (.bool (decide (xs = ys)))) ∧ S = []) := by
 refine E_fn Tryz.func24 rfl (Nat.le_of_ble_eq_true rfl) ?_
 refine E_bound (t:=0) (rows:=trips xs) rfl fun hb=>?_
 rw [trips_len] at hb
 have hlx:=trips_len xs
 have hly:=trips_len ys
 refine E_seq ?_
 refine E_region' (L:=[0]) rfl ?_
 refine xas ?_
 refine EOps_nil ?_
 refine E_seq ?_
 refine E_seq ?_
 refine E_region' (L:=[0,1,2,3,4]) rfl ?_
 refine xmv ?_
 refine x_pure rfl rfl rfl (l_len rfl sl_45) ?_
 refine xmv ?_
 refine x_pure rfl rfl rfl (l_len rfl sl_45) ?_
 refine x_pure rfl rfl rfl (L_bin rfl rfl rfl rfl) ?_
 refine EOps_nil ?_
 refine E_cond rfl (fun hc10=>?_) (fun hc10=>?_)
 ·have hne : xs ≠ ys := fun e => by subst e; simp at hc10
  refine E_seq ?_
  refine E_region' (L:=[0]) rfl ?_
  refine xas ?_
  refine EOps_nil ?_
  refine E_ret ?_
  refine⟨_,[],rfl,rfl,?_,rfl⟩
  simp [AV.ren,ren_sc,ren_ro,AC.ren,AC.ren.rens,ix,rv1,E.get,E.ev,E.cv,E.fill',E.fill,E.slotsOf,hne]
 ·have hlen : xs.length = ys.length := by simp [trips_len] at hc10; omega
  refine E_skip ?_
  refine E_seq ?_
  refine E_seq ?_
  refine E_region' (L:=[0]) rfl ?_
  refine xas ?_
  refine EOps_nil ?_
  refine E_block ?_
  refine e_for (α:=Nat) [0,1,10] (fun k=>[(5,.c (.sc (.int .i64 (k))))]) (fun _=>_) (fun k=>k≤xs.length∧xs.take k=ys.take k) (fun k=>xs.length - k) (0) ?_ (rfl) ⟨.inr rfl,trivial⟩ ?_
  ·simp
  rintro k ⟨hk,htk⟩
  refine E_seq ?_
  refine E_seq ?_
  refine E_region' (L:=[0,1,2,3]) rfl ?_
  refine xmv ?_
  refine xmv ?_
  refine x_pure rfl rfl rfl (l_len rfl sl_45) ?_
  refine x_pure rfl rfl rfl (L_bin rfl rfl rfl rfl) ?_
  refine EOps_nil ?_
  refine E_cond rfl (fun hc14=>?_) (fun hc14=>?_)
  ·have hc14' : k < xs.length := by simpa [trips_len] using hc14
   obtain⟨x,hx⟩:=at_lt hc14'
   obtain⟨y,hy⟩:∃ y,ys[k]? = some y:=⟨_,List.getElem?_eq_getElem (hlen ▸ hc14')⟩
   have hnx:=trips_at hx
   have hny:=trips_at hy
   refine E_skip ?_
   refine E_seq ?_
   refine E_block ?_
   refine E_seq ?_
   refine E_drawT mixed ?_
   refine t_old 0 rfl rfl rfl (L_move rfl) ?_
   refine t_old 1 rfl rfl rfl (L_move rfl) ?_
   refine t_old 2 rfl rfl rfl (L_index rfl rfl (by first|exact i_ro sl_45 ty_104|exact i_sl sl_45 ty_104)) ?_
   refine t_light 3 rfl rfl rfl (L_load rfl (xb0 ty_104)) ?_
   refine t_old 4 rfl rfl rfl (L_move rfl) ?_
   refine t_old 5 rfl rfl rfl (L_move rfl) ?_
   refine t_old 6 rfl rfl rfl (L_index rfl rfl (by first|exact i_ro sl_45 ty_104|exact i_sl sl_45 ty_104)) ?_
   refine t_light 7 rfl rfl rfl (L_load rfl (xb0 ty_104)) ?_
   refine t_call 8 rfl rfl rfl rfl rfl ca_81 (c_laws_eqFilter x y) ?_
   rintro r S ⟨rfl,rfl⟩
   refine t_old 9 rfl rfl rfl (L_not rfl rfl) ?_
   refine T_done (by kernel_rfl) ?_
   refine E_cond rfl (fun hc26=>?_) (fun hc26=>?_)
   ·have hne : xs ≠ ys := fun e => by subst e; rw [hx] at hy; cases hy; simp at hc26
    refine E_seq ?_
    refine E_region' (L:=[0]) rfl ?_
    refine xas ?_
    refine EOps_nil ?_
    refine E_ret ?_
    refine⟨_,[],rfl,rfl,?_,rfl⟩
    simp [AV.ren,ren_sc,ren_ro,AC.ren,AC.ren.rens,ix,rv1,E.get,E.ev,E.cv,E.fill',E.fill,E.slotsOf,hne]
   ·have hxy : x = y := by simpa using hc26
    refine E_skip ?_
    refine E_region' (L:=[0,1,2]) rfl ?_
    refine xmv ?_
    refine x_pure rfl rfl rfl xb2 ?_
    refine xas ?_
    refine EOps_nil ?_
    refine⟨k+1,?_,?_,rfl,⟨.inr rfl,trivial⟩,⟨.inr rfl,.inr rfl,.inr rfl,trivial⟩⟩
    ·first|omega|(dsimp only;omega)|(simp;omega)
    ·exact⟨by omega,by rw [List.take_add_one,List.take_add_one,htk,hx,hy,hxy]⟩
  ·have hk' : xs.length ≤ k := by simpa [trips_len] using hc14
   have heq:xs=ys:=by rw [List.take_of_length_le hk',List.take_of_length_le (by omega)] at htk;exact htk
   refine E_exit ?_
   refine E_seq ?_
   refine E_region' (L:=[0]) rfl ?_
   refine xas ?_
   refine EOps_nil ?_
   refine E_ret ?_
   refine⟨_,[],rfl,rfl,?_,rfl⟩
   simp [AV.ren,ren_sc,ren_ro,AC.ren,AC.ren.rens,ix,rv1,E.get,E.ev,E.cv,E.fill',E.fill,E.slotsOf,heq]

set_option maxRecDepth 20000 in
set_option maxHeartbeats 2000000 in
theorem c_laws_markFilterS (e n : Nat) (q : Int) (xs : List (Int × Int × Int)) (hn : xs.length = n) (hb : n ≤ 1048576) (hq : 0 ≤ q ∧ q ≤ 1099511627776) : EFn Tryz.prog 26 [.c (.sl 0 0 n n), .c (.sc (.int .i64 q))] [.row e 3 (trips xs)] (fun r S => r = .c (.sc (.int .i64 (q + 3 * n))) ∧ S = [.row e 3 (trips (seqT q n))]) := by
 refine E_fn Tryz.func26 rfl (Nat.le_of_ble_eq_true rfl) ?_
 have hM:=seqT_len q n
 have hbl:=trips_len xs
 have hlm:(trips (seqT q n)).length=(trips xs).length:=by rw [trips_len,trips_len];omega
 refine E_seq ?_
 refine E_region' (L:=[0]) rfl ?_
 refine xas ?_
 refine EOps_nil ?_
 refine E_seq ?_
 refine E_seq ?_
 refine E_region' (L:=[0]) rfl ?_
 refine xas ?_
 refine EOps_nil ?_
 refine E_block ?_
 refine e_for (α:=Nat) [0,4] (fun k=>[(5,.c (.sc (.int .i64 (k)))),(1,.c (.sc (.int .i64 ((q+3*k)))))]) (fun k=>[.row e 3 (overL (trips (seqT q n)) (trips xs) k)]) (fun k=>k≤n) (fun k=>n - k) (0) ?_ (by rw [over_zero]) ⟨.inr rfl,.inr (int_eq (by simp)),trivial⟩ ?_
 ·simp
 rintro k hk
 have hlk:(overL (trips (seqT q n)) (trips xs) k).length=n:=by rw [over_len hlm (by omega)];omega
 refine E_seq ?_
 refine E_seq ?_
 refine E_region' (L:=[0,1,2,3]) rfl ?_
 refine xmv ?_
 refine xmv ?_
 refine x_pure rfl rfl rfl (l_len rfl sl_45) ?_
 refine x_pure rfl rfl rfl (L_bin rfl rfl rfl rfl) ?_
 refine EOps_nil ?_
 refine E_cond rfl (fun hc9=>?_) (fun hc9=>?_)
 ·have hk0 : k < n := by simpa using hc9
  obtain⟨x,hx⟩:=at_lt (l:=xs) (k:=k) (by omega)
  have hat:=over_get hlm (trips_at hx)
  have hmk:=trips_at (seqT_at q n k hk0)
  refine E_skip ?_
  refine E_seq ?_
  refine E_block ?_
  refine E_seq ?_
  refine E_region' (L:=[0,1,2,3,4,5]) rfl ?_
  refine xmv ?_
  refine xmv ?_
  refine xmv ?_
  refine x_pure rfl rfl rfl (L_index rfl rfl (by first|exact i_ro sl_45 ty_104|exact i_sl sl_45 ty_104)) ?_
  refine x_pure rfl rfl rfl (l_field rfl fo_104_0) ?_
  refine EOps_go rfl rfl (EOp_store rfl rfl rfl (xb1 ty_3) ?_)
  refine EOps_nil ?_
  refine E_seq ?_
  refine E_region' (L:=[0,1,2]) rfl ?_
  refine xmv ?_
  refine x_pure rfl rfl rfl xb2 ?_
  refine xas ?_
  refine EOps_nil ?_
  refine E_seq ?_
  refine E_region' (L:=[0,1,2,3,4,5,6]) rfl ?_
  refine xmv ?_
  refine xmv ?_
  refine xmv ?_
  refine x_pure rfl rfl rfl (L_index rfl rfl (by first|exact i_ro sl_45 ty_104|exact i_sl sl_45 ty_104)) ?_
  refine x_pure rfl rfl rfl (l_field rfl fo_104_1) ?_
  refine x_pure rfl rfl rfl (l_field rfl fo_43_0) ?_
  refine x_store rfl rfl rfl rfl rfl (s_ep ty_3 (hr:=List.getElem?_set_self xb10)) ?_
  refine EOps_nil ?_
  refine E_seq ?_
  refine E_region' (L:=[0,1,2]) rfl ?_
  refine xmv ?_
  refine x_pure rfl rfl rfl xb2 ?_
  refine xas ?_
  refine EOps_nil ?_
  refine E_seq ?_
  refine E_region' (L:=[0,1,2,3,4,5,6]) rfl ?_
  refine xmv ?_
  refine xmv ?_
  refine xmv ?_
  refine x_pure rfl rfl rfl (L_index rfl rfl (by first|exact i_ro sl_45 ty_104|exact i_sl sl_45 ty_104)) ?_
  refine x_pure rfl rfl rfl (l_field rfl fo_104_1) ?_
  refine x_pure rfl rfl rfl (l_field rfl fo_43_1) ?_
  refine x_store rfl rfl rfl rfl rfl (s_ep ty_3 (hr:=List.getElem?_set_self xb10)) ?_
  refine EOps_nil ?_
  refine E_region' (L:=[0,1,2]) rfl ?_
  refine xmv ?_
  refine x_pure rfl rfl rfl xb2 ?_
  refine xas ?_
  refine EOps_nil ?_
  refine E_region' (L:=[0,1,2]) rfl ?_
  refine xmv ?_
  refine x_pure rfl rfl rfl xb2 ?_
  refine xas ?_
  refine EOps_nil ?_
  refine⟨k+1,?_,?_,by
 show [Res.row e 3 _]=[Res.row e 3 (overL (trips (seqT q n)) (trips xs) (k+1))]
 rw [← over_set hlm hmk]; simp [splice], ⟨.inr rfl, .inr (int_eq (by omega)), trivial⟩, ⟨.inr rfl, .inr rfl, trivial⟩⟩
  ·first|omega|(dsimp only;omega)|(simp;omega)
  ·first|trivial|omega|(dsimp only;omega)|(simp;omega)
 ·have hk1 : n ≤ k := by simpa using hc9
  have hk0:k=n:=by omega
  refine E_exit ?_
  refine E_seq ?_
  refine E_region' (L:=[0,1]) rfl ?_
  refine xmv ?_
  refine xas ?_
  refine EOps_nil ?_
  refine E_ret ?_
  subst hk0
  refine⟨_,[],rfl,rfl,rfl,?_⟩
  rw [over_full hlm (by omega)];rfl

end Go.Proofs.YthlhmpknngidmaaGreat.E
