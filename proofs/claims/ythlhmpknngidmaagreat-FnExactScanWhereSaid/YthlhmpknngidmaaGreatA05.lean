/- Walks through functions, by program out of the session's annotations. -/
import Derived.Test.YthlhmpknngidmaaGreatA01
namespace Go.Proofs.YthlhmpknngidmaaGreat.E
open Go Go.RowKit Go.Proofs
set_option linter.unusedVariables false
set_option linter.unusedSimpArgs false

/-- A column, divided: numbers, rows, pivots. -/
structure Crk where
 vals:List Int
 rows:List Int
 piv:List (Int × Int)
 deriving DecidableEq
def crkC (c:Crk):List AC:=[.ro (ints c.vals),.ro (ints c.rows),.ro (pairs c.piv)]
structure Mp where
 c:Crk
 tail:List Int
 app:Int
 deriving DecidableEq
def mpC (m:Mp):List AC:=[.ro (ints m.c.vals),.ro (ints m.c.rows),.ro (pairs m.c.piv),.ro (ints m.tail),.sc (.int .i64 m.app)]
def szR (left:Int) (n:Nat):Int:=if left - n<0 then -1 else left - n
theorem szR_t {l : Int} {n m : Nat} (h : szR l n < 0) : szR l (n + m) = -1 := by
 unfold szR at *
 split at h
 ·rw [if_pos (by omega)]
 ·omega
theorem szR_f {l : Int} {n : Nat} (m : Nat) (h : ¬ szR l n < 0) : szR (szR l n) m = szR l (n + m) := by
 have e : szR l n = l - n := by
  unfold szR at *
  split at h
  ·omega
  ·rw [if_neg (by assumption)]
 rw [e]
 unfold szR
 by_cases h2:l - (n:Int) - (m:Int)<0
 ·rw [if_pos h2,if_pos (by omega)]
 ·rw [if_neg h2,if_neg (by omega)];omega
theorem szR_rng {l : Int} {n : Nat} (h : -1 ≤ l ∧ l ≤ 1048576) : -1 ≤ szR l n ∧ szR l n ≤ 1048576 := by
 unfold szR
 split<;>constructor<;>omega
theorem szR_le {l : Int} {n : Nat} (h : ¬ szR l n < 0) : (n : Int) ≤ l := by
 unfold szR at h
 split at h<;>omega

set_option maxRecDepth 20000 in
set_option maxHeartbeats 2000000 in
theorem c_laws_szIntS (xs : List (Int)) (left : Int) (hl : -1 ≤ left ∧ left ≤ 1048576) : EFn Tryz.prog 54 [.c (.ro (ints xs)), .c (.sc (.int .i64 left))] [] (fun r S => r = .c (.sc (.int .i64 (szR left xs.length))) ∧ S = []) := by
 refine E_fn Tryz.func54 rfl (Nat.le_of_ble_eq_true rfl) ?_
 refine E_bound (t:=0) (rows:=ints xs) rfl fun hb=>?_
 rw [ints_len] at hb
 refine E_seq ?_
 refine E_region' (L:=[0]) rfl ?_
 refine xas ?_
 refine EOps_nil ?_
 refine E_seq ?_
 refine E_region' (L:=[0,1,2,3,4]) rfl ?_
 refine xmv ?_
 refine xmv ?_
 refine x_pure rfl rfl rfl (l_len rfl sl_22) ?_
 refine x_pure rfl rfl rfl xb5 ?_
 refine xas ?_
 refine EOps_nil ?_
 refine E_seq ?_
 refine E_seq ?_
 refine E_region' (L:=[0,1]) rfl ?_
 refine xmv ?_
 refine x_pure rfl rfl rfl (L_bin rfl rfl rfl rfl) ?_
 refine EOps_nil ?_
 refine E_cond rfl (fun hc10=>?_) (fun hc10=>?_)
 ·have h1 : left - xs.length < 0 := by simpa [ints_len] using hc10
  refine E_seq ?_
  refine E_region' (L:=[0]) rfl ?_
  refine xas ?_
  refine EOps_nil ?_
  refine E_ret ?_
  refine⟨_,[],rfl,rfl,int_eq ?_,rfl⟩
  rw [szR,if_pos h1]
 ·have h1 : ¬ left - xs.length < 0 := by simpa [ints_len] using hc10
  refine E_skip ?_
  refine E_seq ?_
  refine E_region' (L:=[0,1]) rfl ?_
  refine xmv ?_
  refine xas ?_
  refine EOps_nil ?_
  refine E_ret ?_
  refine⟨_,[],rfl,rfl,int_eq ?_,rfl⟩
  rw [szR,if_neg h1,← ints_len]

set_option maxRecDepth 20000 in
set_option maxHeartbeats 2000000 in
theorem c_laws_szPivotS (xs : List (Int × Int)) (left : Int) (hl : -1 ≤ left ∧ left ≤ 1048576) : EFn Tryz.prog 189 [.c (.ro (pairs xs)), .c (.sc (.int .i64 left))] [] (fun r S => r = .c (.sc (.int .i64 (szR left xs.length))) ∧ S = []) := by
 refine E_fn Tryz.func189 rfl (Nat.le_of_ble_eq_true rfl) ?_
 refine E_bound (t:=0) (rows:=pairs xs) rfl fun hb=>?_
 rw [pairs_len] at hb
 refine E_seq ?_
 refine E_region' (L:=[0]) rfl ?_
 refine xas ?_
 refine EOps_nil ?_
 refine E_seq ?_
 refine E_region' (L:=[0,1,2,3,4]) rfl ?_
 refine xmv ?_
 refine xmv ?_
 refine x_pure rfl rfl rfl (l_len rfl sl_148) ?_
 refine x_pure rfl rfl rfl xb5 ?_
 refine xas ?_
 refine EOps_nil ?_
 refine E_seq ?_
 refine E_seq ?_
 refine E_region' (L:=[0,1]) rfl ?_
 refine xmv ?_
 refine x_pure rfl rfl rfl (L_bin rfl rfl rfl rfl) ?_
 refine EOps_nil ?_
 refine E_cond rfl (fun hc10=>?_) (fun hc10=>?_)
 ·have h1 : left - xs.length < 0 := by simpa [pairs_len] using hc10
  refine E_seq ?_
  refine E_region' (L:=[0]) rfl ?_
  refine xas ?_
  refine EOps_nil ?_
  refine E_ret ?_
  refine⟨_,[],rfl,rfl,int_eq ?_,rfl⟩
  rw [szR,if_pos h1]
 ·have h1 : ¬ left - xs.length < 0 := by simpa [pairs_len] using hc10
  refine E_skip ?_
  refine E_seq ?_
  refine E_region' (L:=[0,1]) rfl ?_
  refine xmv ?_
  refine xas ?_
  refine EOps_nil ?_
  refine E_ret ?_
  refine⟨_,[],rfl,rfl,int_eq ?_,rfl⟩
  rw [szR,if_neg h1,← pairs_len]

set_option maxRecDepth 20000 in
set_option maxHeartbeats 2000000 in
theorem c_laws_szCracker (c : Crk) (left : Int) (hl : -1 ≤ left ∧ left ≤ 1048576) : EFn Tryz.prog 162 [.agg (crkC c), .c (.sc (.int .i64 left))] [] (fun r S => r = .c (.sc (.int .i64 (szR left (c.vals.length + c.rows.length + c.piv.length)))) ∧ S = []) := by
 refine E_fn Tryz.func162 rfl (Nat.le_of_ble_eq_true rfl) ?_
 refine E_seq ?_
 refine E_region' (L:=[0,1]) rfl ?_
 refine x_box rfl rfl rfl rfl rfl ?_
 refine xas ?_
 refine EOps_nil ?_
 refine E_seq ?_
 refine E_region' (L:=[0,1,2,3,4]) rfl ?_
 refine x_pure rfl rfl rfl (l_field rfl fo_150_0) ?_
 refine x_light rfl rfl rfl (L_load rfl (xb0 ty_22)) ?_
 refine xmv ?_
 refine x_call rfl rfl rfl rfl rfl ca_54 (c_laws_szIntS c.vals left hl) ?_ (hq:=by rintro r S ⟨rfl,rfl⟩;exact⟨rfl,rfl⟩)
 rintro r S ⟨rfl,rfl⟩
 refine xas ?_
 refine EOps_nil ?_
 refine E_seq ?_
 refine E_seq ?_
 refine E_region' (L:=[0,1]) rfl ?_
 refine xmv ?_
 refine x_pure rfl rfl rfl (L_bin rfl rfl rfl rfl) ?_
 refine EOps_nil ?_
 refine E_cond rfl (fun hc10=>?_) (fun hc10=>?_)
 ·have h1 : szR left c.vals.length < 0 := by simpa using hc10
  refine E_seq ?_
  refine E_region' (L:=[0]) rfl ?_
  refine xas ?_
  refine EOps_nil ?_
  refine E_ret ?_
  refine⟨_,[],rfl,rfl,int_eq ?_,rfl⟩
  rw [Nat.add_assoc,szR_t h1]
 ·have h1 : ¬ szR left c.vals.length < 0 := by simpa using hc10
  refine E_skip ?_
  refine E_seq ?_
  refine E_region' (L:=[0,1,2,3,4]) rfl ?_
  refine x_pure rfl rfl rfl (l_field rfl fo_150_1) ?_
  refine x_light rfl rfl rfl (L_load rfl (xb0 ty_22)) ?_
  refine xmv ?_
  refine x_call rfl rfl rfl rfl rfl ca_54 (c_laws_szIntS c.rows (szR left c.vals.length) (szR_rng hl)) ?_ (hq:=by rintro r S ⟨rfl,rfl⟩;exact⟨rfl,rfl⟩)
  rintro r S ⟨rfl,rfl⟩
  refine xas ?_
  refine EOps_nil ?_
  refine E_seq ?_
  refine E_seq ?_
  refine E_region' (L:=[0,1]) rfl ?_
  refine xmv ?_
  refine x_pure rfl rfl rfl (L_bin rfl rfl rfl rfl) ?_
  refine EOps_nil ?_
  refine E_cond rfl (fun hc16=>?_) (fun hc16=>?_)
  ·have h2 : szR (szR left c.vals.length) c.rows.length < 0 := by simpa using hc16
   refine E_seq ?_
   refine E_region' (L:=[0]) rfl ?_
   refine xas ?_
   refine EOps_nil ?_
   refine E_ret ?_
   rw [szR_f _ h1] at h2
   refine⟨_,[],rfl,rfl,int_eq ?_,rfl⟩
   rw [szR_t h2]
  ·have h2 : ¬ szR (szR left c.vals.length) c.rows.length < 0 := by simpa using hc16
   have e2:=szR_f c.rows.length h1
   have e3:=szR_f c.piv.length (e2 ▸ h2)
   refine E_skip ?_
   refine E_seq ?_
   refine E_region' (L:=[0,1,2,3,4]) rfl ?_
   refine x_pure rfl rfl rfl (l_field rfl fo_150_2) ?_
   refine x_light rfl rfl rfl (L_load rfl (xb0 ty_148)) ?_
   refine xmv ?_
   refine x_call rfl rfl rfl rfl rfl ca_189 (c_laws_szPivotS c.piv (szR (szR left c.vals.length) c.rows.length) (szR_rng (szR_rng hl))) ?_ (hq:=by rintro r S ⟨rfl,rfl⟩;exact⟨rfl,rfl⟩)
   rintro r S ⟨rfl,rfl⟩
   refine xas ?_
   refine EOps_nil ?_
   refine E_seq ?_
   refine E_seq ?_
   refine E_region' (L:=[0,1]) rfl ?_
   refine xmv ?_
   refine x_pure rfl rfl rfl (L_bin rfl rfl rfl rfl) ?_
   refine EOps_nil ?_
   refine E_cond rfl (fun hc22=>?_) (fun hc22=>?_)
   ·have h3 : szR (szR (szR left c.vals.length) c.rows.length) c.piv.length < 0 := by simpa using hc22
    refine E_seq ?_
    refine E_region' (L:=[0]) rfl ?_
    refine xas ?_
    refine EOps_nil ?_
    refine E_ret ?_
    refine⟨_,[],rfl,rfl,int_eq ?_,rfl⟩
    rw [e2,e3] at h3
    have:=szR_t (m:=0) h3
    simpa using this.symm
   ·refine E_skip ?_
    refine E_seq ?_
    refine E_region' (L:=[0,1]) rfl ?_
    refine xmv ?_
    refine xas ?_
    refine EOps_nil ?_
    refine E_ret ?_
    refine⟨_,[],rfl,rfl,int_eq ?_,rfl⟩
    exact (congrArg (fun z=>szR z c.piv.length) e2).trans e3

set_option maxRecDepth 20000 in
set_option maxHeartbeats 2000000 in
theorem c_laws_szMap (m : Mp) (left : Int) (hl : -1 ≤ left ∧ left ≤ 1048576) : EFn Tryz.prog 126 [.agg (mpC m), .c (.sc (.int .i64 left))] [] (fun r S => r = .c (.sc (.int .i64 (szR left (m.c.vals.length + m.c.rows.length + m.c.piv.length + m.tail.length)))) ∧ S = []) := by
 refine E_fn Tryz.func126 rfl (Nat.le_of_ble_eq_true rfl) ?_
 refine E_seq ?_
 refine E_region' (L:=[0,1]) rfl ?_
 refine x_box rfl rfl rfl rfl rfl ?_
 refine xas ?_
 refine EOps_nil ?_
 refine E_seq ?_
 refine E_region' (L:=[0,1,2,3,4]) rfl ?_
 refine x_pure rfl rfl rfl (l_field rfl fo_152_0) ?_
 refine x_light rfl rfl rfl (L_load rfl (xb0 ty_150)) ?_
 refine xmv ?_
 refine x_call rfl rfl rfl rfl rfl ca_162 (c_laws_szCracker m.c left hl) ?_ (hq:=by rintro r S ⟨rfl,rfl⟩;exact⟨rfl,rfl⟩)
 rintro r S ⟨rfl,rfl⟩
 refine xas ?_
 refine EOps_nil ?_
 refine E_seq ?_
 refine E_seq ?_
 refine E_region' (L:=[0,1]) rfl ?_
 refine xmv ?_
 refine x_pure rfl rfl rfl (L_bin rfl rfl rfl rfl) ?_
 refine EOps_nil ?_
 refine E_cond rfl (fun hc10=>?_) (fun hc10=>?_)
 ·have h1 : szR left (m.c.vals.length + m.c.rows.length + m.c.piv.length) < 0 := by simpa using hc10
  refine E_seq ?_
  refine E_region' (L:=[0]) rfl ?_
  refine xas ?_
  refine EOps_nil ?_
  refine E_ret ?_
  refine⟨_,[],rfl,rfl,int_eq ?_,rfl⟩
  rw [szR_t h1]
 ·have h1 : ¬ szR left (m.c.vals.length + m.c.rows.length + m.c.piv.length) < 0 := by simpa using hc10
  have e2:=szR_f m.tail.length h1
  refine E_skip ?_
  refine E_seq ?_
  refine E_region' (L:=[0,1,2,3,4]) rfl ?_
  refine x_pure rfl rfl rfl (l_field rfl fo_152_1) ?_
  refine x_light rfl rfl rfl (L_load rfl (xb0 ty_22)) ?_
  refine xmv ?_
  refine x_call rfl rfl rfl rfl rfl ca_54 (c_laws_szIntS m.tail _ (szR_rng hl)) ?_ (hq:=by rintro r S ⟨rfl,rfl⟩;exact⟨rfl,rfl⟩)
  rintro r S ⟨rfl,rfl⟩
  refine xas ?_
  refine EOps_nil ?_
  refine E_seq ?_
  refine E_seq ?_
  refine E_region' (L:=[0,1]) rfl ?_
  refine xmv ?_
  refine x_pure rfl rfl rfl (L_bin rfl rfl rfl rfl) ?_
  refine EOps_nil ?_
  refine E_cond rfl (fun hc16=>?_) (fun hc16=>?_)
  ·have h3 : szR (szR left (m.c.vals.length + m.c.rows.length + m.c.piv.length)) m.tail.length < 0 := by simpa using hc16
   refine E_seq ?_
   refine E_region' (L:=[0]) rfl ?_
   refine xas ?_
   refine EOps_nil ?_
   refine E_ret ?_
   refine⟨_,[],rfl,rfl,int_eq ?_,rfl⟩
   rw [e2] at h3
   have:=szR_t (m:=0) h3
   simpa using this.symm
  ·refine E_skip ?_
   refine E_seq ?_
   refine E_region' (L:=[0,1]) rfl ?_
   refine xmv ?_
   refine xas ?_
   refine EOps_nil ?_
   refine E_ret ?_
   refine⟨_,[],rfl,rfl,int_eq ?_,rfl⟩
   exact e2

set_option maxRecDepth 20000 in
set_option maxHeartbeats 2000000 in
theorem c_laws_toPivot (a b : Int) : EFn Tryz.prog 204 [.agg [.sc (.int .i64 a), .sc (.int .i64 b)]] [] (fun r S => r = .agg [.sc (.int .i64 a), .sc (.int .i64 b)] ∧ S = []) := by
 refine E_fn Tryz.func204 rfl (Nat.le_of_ble_eq_true rfl) ?_
 refine E_seq ?_
 refine E_region' (L:=[0,1]) rfl ?_
 refine x_box rfl rfl rfl rfl rfl ?_
 refine x_alloc rfl rfl rfl rfl za_157 ?_
 refine EOps_nil ?_
 refine E_seq ?_
 refine E_region' (L:=[0]) rfl ?_
 refine x_alloc rfl rfl rfl rfl za_157 ?_
 refine EOps_nil ?_
 refine E_seq ?_
 refine E_region' (L:=[0,1,2,3]) rfl ?_
 refine x_pure rfl rfl rfl (l_field rfl fo_220_0) ?_
 refine x_light rfl rfl rfl (L_load rfl (xb0 ty_3)) ?_
 refine x_pure rfl rfl rfl (l_field rfl fo_157_0) ?_
 refine EOps_go rfl rfl (EOp_store rfl rfl rfl (xb1 ty_3) ?_)
 refine EOps_nil ?_
 refine E_seq ?_
 refine E_region' (L:=[0,1,2,3]) rfl ?_
 refine x_pure rfl rfl rfl (l_field rfl fo_220_1) ?_
 refine x_light rfl rfl rfl (L_load rfl (xb0 ty_3)) ?_
 refine x_pure rfl rfl rfl (l_field rfl fo_157_1) ?_
 refine EOps_go rfl rfl (EOp_store rfl rfl rfl (xb1 ty_3) ?_)
 refine EOps_nil ?_
 refine E_seq ?_
 refine E_region' (L:=[0,1]) rfl ?_
 refine x_light rfl rfl rfl (L_load rfl (xb0 ty_157)) ?_
 refine EOps_go rfl rfl (EOp_store rfl rfl rfl (xb1 ty_157) ?_)
 refine EOps_nil ?_
 refine E_ret ?_
 exact⟨_,[],rfl,rfl,rfl,rfl⟩

set_option maxRecDepth 20000 in
set_option maxHeartbeats 2000000 in
theorem c_laws_toPivotS (xs : List (Int × Int)) (hn : xs.length ≤ 1048576) : EFn Tryz.prog 190 [.c (.ro (pairs xs))] [] (fun r S => r = .c (.sl 0 0 xs.length xs.length) ∧ S = [.row 157 2 (pairs xs)]) := by
 refine E_fn Tryz.func190 rfl (Nat.le_of_ble_eq_true rfl) ?_
 refine E_seq ?_
 refine E_region' (L:=[0]) rfl ?_
 refine xas ?_
 refine EOps_nil ?_
 refine E_seq ?_
 refine E_region' (L:=[0,1,2,3]) rfl ?_
 refine xmv ?_
 refine x_pure rfl rfl rfl (l_len rfl sl_148) ?_
 refine EOps_go rfl rfl (Heavy.op (H_make rfl rfl (by decide) rfl rfl sl_68 ty_157 by_157 za_157 ⟨rfl,by decide⟩ (by simp [pairs_len];omega) ?_))
 refine xas ?_
 refine EOps_nil ?_
 refine E_seq ?_
 refine E_seq ?_
 refine E_region' (L:=[0]) rfl ?_
 refine xas ?_
 refine EOps_nil ?_
 refine E_block ?_
 refine e_for (α:=Nat) [0,2,3] (fun k=>[(4,.c (.sc (.int .i64 (k))))]) (fun k=>[.row 157 2 (pairs (part xs (0,0) k))]) (fun k=>k≤xs.length) (fun k=>xs.length - k) (0) ?_ (by simp [zT,pairs_len,pairs_rep,part_zero]) ⟨.inr rfl,trivial⟩ ?_
 ·simp
 rintro k hI
 refine E_seq ?_
 refine E_seq ?_
 refine E_region' (L:=[0,1,2,3]) rfl ?_
 refine xmv ?_
 refine xmv ?_
 refine x_pure rfl rfl rfl (l_len rfl sl_148) ?_
 refine x_pure rfl rfl rfl (L_bin rfl rfl rfl rfl) ?_
 refine EOps_nil ?_
 refine E_cond rfl (fun hc11=>?_) (fun hc11=>?_)
 ·have hc11' : k < (xs).length := by simpa [ints_len, bools_len, pairs_len, quads_len, quints_len] using hc11
  obtain⟨x,hx⟩:∃ x,(xs)[k]? = some x:=⟨_,List.getElem?_eq_getElem hc11'⟩
  refine E_skip ?_
  refine E_seq ?_
  refine E_block ?_
  refine E_region' (L:=[0,1,2,3,4,5,6,7,8]) rfl ?_
  refine xmv ?_
  refine xmv ?_
  refine xmv ?_
  refine xmv ?_
  refine x_pure rfl rfl rfl (L_index rfl rfl (by first|exact i_ro sl_148 ty_220|exact i_sl sl_148 ty_220)) ?_
  refine x_light rfl rfl rfl (L_load rfl (xb0 ty_220)) ?_
  refine x_call rfl rfl rfl rfl rfl ca_204 (c_laws_toPivot x.1 x.2) ?_
  rintro r S ⟨rfl,rfl⟩
  refine x_pure rfl rfl rfl (L_index rfl rfl (by first|exact i_ro sl_68 ty_157|exact i_sl sl_68 ty_157)) ?_
  refine EOps_go rfl rfl (EOp_store rfl rfl rfl (xb1 ty_157) ?_)
  refine EOps_nil ?_
  refine E_region' (L:=[0,1,2]) rfl ?_
  refine xmv ?_
  refine x_pure rfl rfl rfl xb2 ?_
  refine xas ?_
  refine EOps_nil ?_
  refine⟨k+1,?_,?_,by rw [← part_set hx,← pairs_set];simp [splice],⟨.inr rfl,trivial⟩,⟨.inr rfl,.inr rfl,.inr rfl,trivial⟩⟩
  ·first|omega|(dsimp only;omega)|(simp;omega)
  ·first|trivial|omega|(dsimp only;omega)|(simp;omega)
 ·have hk : xs.length ≤ k := by simpa [pairs_len] using hc11
  refine E_exit ?_
  refine E_seq ?_
  refine E_region' (L:=[0,1]) rfl ?_
  refine xmv ?_
  refine xas ?_
  refine EOps_nil ?_
  refine E_ret ?_
  refine⟨_,[0],rfl,rfl,?_,?_⟩
  ·simp [AV.ren,ren_sc,ren_ro,AC.ren,AC.ren.rens,ix,rv1,E.get,E.ev,E.cv,E.fill',E.fill,E.slotsOf,pairs_len]
  ·simp [reR,Res.ren,part_full xs (0,0) hk]

set_option maxRecDepth 20000 in
set_option maxHeartbeats 2000000 in
theorem c_laws_toCracker (c : Crk) (hn : c.vals.length ≤ 1048576 ∧ c.rows.length ≤ 1048576 ∧ c.piv.length ≤ 1048576) : EFn Tryz.prog 163 [.agg (crkC c)] [] (fun r S => r = .agg [.sl 0 0 c.vals.length c.vals.length, .sl 1 0 c.rows.length c.rows.length, .sl 2 0 c.piv.length c.piv.length] ∧ S = [.row 3 1 (ints c.vals), .row 3 1 (ints c.rows), .row 157 2 (pairs c.piv)]) := by
 refine E_fn Tryz.func163 rfl (Nat.le_of_ble_eq_true rfl) ?_
 refine E_seq ?_
 refine E_region' (L:=[0,1]) rfl ?_
 refine x_box rfl rfl rfl rfl rfl ?_
 refine x_alloc rfl rfl rfl rfl za_70 ?_
 refine EOps_nil ?_
 refine E_seq ?_
 refine E_region' (L:=[0]) rfl ?_
 refine x_alloc rfl rfl rfl rfl za_70 ?_
 refine EOps_nil ?_
 refine E_seq ?_
 refine E_region' (L:=[0,1,2,3,4]) rfl ?_
 refine x_pure rfl rfl rfl (l_field rfl fo_150_0) ?_
 refine x_light rfl rfl rfl (L_load rfl (xb0 ty_22)) ?_
 refine x_call rfl rfl rfl rfl rfl ca_21 (c_laws_toIntS c.vals hn.1) ?_ (hq:=by rintro r S ⟨rfl,rfl⟩;exact⟨rfl,rfl⟩)
 rintro r S ⟨rfl,rfl⟩
 refine x_pure rfl rfl rfl (l_field rfl fo_70_0) ?_
 refine EOps_go rfl rfl (EOp_store rfl rfl rfl (xb1 ty_22) ?_)
 refine EOps_nil ?_
 refine E_seq ?_
 refine E_region' (L:=[0,1,2,3,4]) rfl ?_
 refine x_pure rfl rfl rfl (l_field rfl fo_150_1) ?_
 refine x_light rfl rfl rfl (L_load rfl (xb0 ty_22)) ?_
 refine x_call rfl rfl rfl rfl rfl ca_21 (c_laws_toIntS c.rows hn.2.1) ?_ (hq:=by rintro r S ⟨rfl,rfl⟩;exact⟨rfl,rfl⟩)
 rintro r S ⟨rfl,rfl⟩
 refine x_pure rfl rfl rfl (l_field rfl fo_70_1) ?_
 refine EOps_go rfl rfl (EOp_store rfl rfl rfl (xb1 ty_22) ?_)
 refine EOps_nil ?_
 refine E_seq ?_
 refine E_region' (L:=[0,1,2,3,4]) rfl ?_
 refine x_pure rfl rfl rfl (l_field rfl fo_150_2) ?_
 refine x_light rfl rfl rfl (L_load rfl (xb0 ty_148)) ?_
 refine x_call rfl rfl rfl rfl rfl ca_190 (c_laws_toPivotS c.piv hn.2.2) ?_ (hq:=by rintro r S ⟨rfl,rfl⟩;exact⟨rfl,rfl⟩)
 rintro r S ⟨rfl,rfl⟩
 refine x_pure rfl rfl rfl (l_field rfl fo_70_2) ?_
 refine EOps_go rfl rfl (EOp_store rfl rfl rfl (xb1 ty_68) ?_)
 refine EOps_nil ?_
 refine E_seq ?_
 refine E_region' (L:=[0,1]) rfl ?_
 refine x_light rfl rfl rfl (L_load rfl (xb0 ty_70)) ?_
 refine EOps_go rfl rfl (EOp_store rfl rfl rfl (xb1 ty_70) ?_)
 refine EOps_nil ?_
 refine E_ret ?_
 exact⟨_,[3,4,5],rfl,rfl,rfl,rfl⟩

set_option maxRecDepth 20000 in
set_option maxHeartbeats 2000000 in
theorem c_laws_toMap (m : Mp) (hn : m.c.vals.length ≤ 1048576 ∧ m.c.rows.length ≤ 1048576 ∧ m.c.piv.length ≤ 1048576 ∧ m.tail.length ≤ 1048576) : EFn Tryz.prog 127 [.agg (mpC m)] [] (fun r S => r = .agg [.sl 0 0 m.c.vals.length m.c.vals.length, .sl 1 0 m.c.rows.length m.c.rows.length, .sl 2 0 m.c.piv.length m.c.piv.length, .sl 3 0 m.tail.length m.tail.length, .sc (.int .i64 m.app)] ∧ S = [.row 3 1 (ints m.c.vals), .row 3 1 (ints m.c.rows), .row 157 2 (pairs m.c.piv), .row 3 1 (ints m.tail)]) := by
 refine E_fn Tryz.func127 rfl (Nat.le_of_ble_eq_true rfl) ?_
 refine E_seq ?_
 refine E_region' (L:=[0,1]) rfl ?_
 refine x_box rfl rfl rfl rfl rfl ?_
 refine x_alloc rfl rfl rfl rfl za_72 ?_
 refine EOps_nil ?_
 refine E_seq ?_
 refine E_region' (L:=[0]) rfl ?_
 refine x_alloc rfl rfl rfl rfl za_72 ?_
 refine EOps_nil ?_
 refine E_seq ?_
 refine E_region' (L:=[0,1,2,3,4]) rfl ?_
 refine x_pure rfl rfl rfl (l_field rfl fo_152_0) ?_
 refine x_light rfl rfl rfl (L_load rfl (xb0 ty_150)) ?_
 refine x_call rfl rfl rfl rfl rfl ca_163 (c_laws_toCracker m.c ⟨hn.1,hn.2.1,hn.2.2.1⟩) ?_ (hq:=by rintro r S ⟨rfl,rfl⟩;exact⟨rfl,rfl⟩)
 rintro r S ⟨rfl,rfl⟩
 refine x_pure rfl rfl rfl (l_field rfl fo_72_0) ?_
 refine EOps_go rfl rfl (EOp_store rfl rfl rfl (xb1 ty_70) ?_)
 refine EOps_nil ?_
 refine E_seq ?_
 refine E_region' (L:=[0,1,2,3,4]) rfl ?_
 refine x_pure rfl rfl rfl (l_field rfl fo_152_1) ?_
 refine x_light rfl rfl rfl (L_load rfl (xb0 ty_22)) ?_
 refine x_call rfl rfl rfl rfl rfl ca_21 (c_laws_toIntS m.tail hn.2.2.2) ?_ (hq:=by rintro r S ⟨rfl,rfl⟩;exact⟨rfl,rfl⟩)
 rintro r S ⟨rfl,rfl⟩
 refine x_pure rfl rfl rfl (l_field rfl fo_72_1) ?_
 refine EOps_go rfl rfl (EOp_store rfl rfl rfl (xb1 ty_22) ?_)
 refine EOps_nil ?_
 refine E_seq ?_
 refine E_region' (L:=[0,1,2,3]) rfl ?_
 refine x_pure rfl rfl rfl (l_field rfl fo_152_2) ?_
 refine x_light rfl rfl rfl (L_load rfl (xb0 ty_3)) ?_
 refine x_pure rfl rfl rfl (l_field rfl fo_72_2) ?_
 refine EOps_go rfl rfl (EOp_store rfl rfl rfl (xb1 ty_3) ?_)
 refine EOps_nil ?_
 refine E_seq ?_
 refine E_region' (L:=[0,1]) rfl ?_
 refine x_light rfl rfl rfl (L_load rfl (xb0 ty_72)) ?_
 refine EOps_go rfl rfl (EOp_store rfl rfl rfl (xb1 ty_72) ?_)
 refine EOps_nil ?_
 refine E_ret ?_
 exact⟨_,[3,4,5,6],rfl,rfl,rfl,rfl⟩

end Go.Proofs.YthlhmpknngidmaaGreat.E
