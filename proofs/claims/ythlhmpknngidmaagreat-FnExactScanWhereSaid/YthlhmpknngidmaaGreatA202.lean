/- Walks through functions, by program out of the session's annotations. -/
import Derived.Test.YthlhmpknngidmaaGreatA201
namespace Go.Proofs.YthlhmpknngidmaaGreat.E
open Go Go.RowKit Go.Proofs
set_option linter.unusedVariables false
set_option linter.unusedSimpArgs false

/-- A set of maps. -/
structure MSt where
 head:List Int
 tails:List (List Int)
 hist:List Int
 maps:List Mp
 built:List Bool
 used:List Int
 clock:Int
 budget:Int
 deriving DecidableEq
def msC (s:MSt):List AC:=[.ro (ints s.head),.ro (nest s.tails),.ro (ints s.hist),.ro (mps s.maps),.ro (bools s.built),.ro (ints s.used),.sc (.int .i64 s.clock),.sc (.int .i64 s.budget)]
def msO (n:Nat) (s:MSt):List AC:=[.sl n 0 s.head.length s.head.length,.sl (n+1) 0 s.tails.length s.tails.length,.sl (n+2) 0 s.hist.length s.hist.length,.sl (n+3) 0 s.maps.length s.maps.length,.sl (n+4) 0 s.built.length s.built.length,.sl (n+5) 0 s.used.length s.used.length,.sc (.int .i64 s.clock),.sc (.int .i64 s.budget)]
def msR (ti tl tm tb:Nat) (s:MSt):List Res:=[.row ti 1 (ints s.head),.row tl 1 (nest s.tails),.row ti 1 (ints s.hist),.row tm 5 (mps s.maps),.row tb 1 (bools s.built),.row ti 1 (ints s.used)]
def msZ (s:MSt):Nat:=s.head.length+(s.tails.length+totL s.tails)+s.hist.length+(s.maps.length+totZ s.maps)+s.built.length+s.used.length
def msM (s:MSt):Nat:=s.head.length+totL s.tails+s.hist.length+totM s.maps+s.built.length+s.used.length
theorem msM_le (s : MSt) : msM s ≤ 2 * msZ s := by
 have:=totM_le s.maps
 unfold msM msZ
 omega
/-- What is marked of a set from q on. -/
def mrkS (q:Int) (s:MSt):MSt:=⟨seqF (q) s.head.length,markN (q+s.head.length) s.tails s.tails.length,seqF (q+s.head.length+totL s.tails) s.hist.length,mrkMs (q+s.head.length+totL s.tails+s.hist.length) s.maps,seqB (q+s.head.length+totL s.tails+s.hist.length+totM s.maps) s.built.length,seqF (q+s.head.length+totL s.tails+s.hist.length+totM s.maps+s.built.length) s.used.length,s.clock,s.budget⟩

set_option maxRecDepth 20000 in
set_option maxHeartbeats 4000000 in
theorem c_laws_szMapSet (s : MSt) (left : Int) (hl : -1 ≤ left ∧ left ≤ 1048576) : EFn Tryz.prog 10 [.agg (msC s), .c (.sc (.int .i64 left))] [] (fun r S => r = .c (.sc (.int .i64 (szR left (msZ s)))) ∧ S = []) := by
 refine E_fn Tryz.func10 rfl (Nat.le_of_ble_eq_true rfl) ?_
 refine E_seq ?_
 refine E_region' (L:=[0,1]) rfl ?_
 refine x_box rfl rfl rfl rfl rfl ?_
 refine xas ?_
 refine EOps_nil ?_
 refine E_seq ?_
 refine E_region' (L:=[0,1,2,3,4]) rfl ?_
 refine x_pure rfl rfl rfl (l_field rfl fo_27_0) ?_
 refine x_light rfl rfl rfl (L_load rfl (xb0 ty_22)) ?_
 refine xmv ?_
 refine x_call rfl rfl rfl rfl rfl ca_54 (c_laws_szIntS s.head (left) (hl)) ?_
 rintro r S ⟨rfl,rfl⟩
 refine xas ?_
 refine EOps_nil ?_
 refine E_seq ?_
 refine E_seq ?_
 refine E_region' (L:=[0,1]) rfl ?_
 refine xmv ?_
 refine x_pure rfl rfl rfl (L_bin rfl rfl rfl rfl) ?_
 refine EOps_nil ?_
 refine E_cond rfl (fun hc10=>?_) (fun hc10=>?_)
 ·have hx : szR left (s.head.length) < 0 := by simpa using hc10
  refine E_seq ?_
  refine E_region' (L:=[0]) rfl ?_
  refine xas ?_
  refine EOps_nil ?_
  refine E_ret ?_
  refine⟨_,[],rfl,rfl,int_eq ?_,rfl⟩
  rw [szR_end hx (by unfold msZ;omega)]
 ·have hn0 : ¬ szR left (s.head.length) < 0 := by simpa using hc10
  refine E_skip ?_
  refine E_seq ?_
  refine E_region' (L:=[0,1,2,3,4]) rfl ?_
  refine x_pure rfl rfl rfl (l_field rfl fo_27_1) ?_
  refine x_light rfl rfl rfl (L_load rfl (xb0 ty_23)) ?_
  refine xmv ?_
  refine x_call rfl rfl rfl rfl rfl ca_55 (c_laws_szIntSS s.tails (szR left (s.head.length)) (szR_rng hl)) ?_
  rintro r S ⟨rfl,rfl⟩
  rw [szR_f _ hn0]
  refine xas ?_
  refine EOps_nil ?_
  refine E_seq ?_
  refine E_seq ?_
  refine E_region' (L:=[0,1]) rfl ?_
  refine xmv ?_
  refine x_pure rfl rfl rfl (L_bin rfl rfl rfl rfl) ?_
  refine EOps_nil ?_
  refine E_cond rfl (fun hc16=>?_) (fun hc16=>?_)
  ·have hx : szR left (s.head.length + (s.tails.length + totL s.tails)) < 0 := by simpa using hc16
   refine E_seq ?_
   refine E_region' (L:=[0]) rfl ?_
   refine xas ?_
   refine EOps_nil ?_
   refine E_ret ?_
   refine⟨_,[],rfl,rfl,int_eq ?_,rfl⟩
   rw [szR_end hx (by unfold msZ;omega)]
  ·have hn1 : ¬ szR left (s.head.length + (s.tails.length + totL s.tails)) < 0 := by simpa using hc16
   refine E_skip ?_
   refine E_seq ?_
   refine E_region' (L:=[0,1,2,3,4]) rfl ?_
   refine x_pure rfl rfl rfl (l_field rfl fo_27_2) ?_
   refine x_light rfl rfl rfl (L_load rfl (xb0 ty_22)) ?_
   refine xmv ?_
   refine x_call rfl rfl rfl rfl rfl ca_54 (c_laws_szIntS s.hist (szR left (s.head.length+(s.tails.length+totL s.tails))) (szR_rng hl)) ?_
   rintro r S ⟨rfl,rfl⟩
   rw [szR_f _ hn1]
   refine xas ?_
   refine EOps_nil ?_
   refine E_seq ?_
   refine E_seq ?_
   refine E_region' (L:=[0,1]) rfl ?_
   refine xmv ?_
   refine x_pure rfl rfl rfl (L_bin rfl rfl rfl rfl) ?_
   refine EOps_nil ?_
   refine E_cond rfl (fun hc22=>?_) (fun hc22=>?_)
   ·have hx : szR left (s.head.length + (s.tails.length + totL s.tails) + s.hist.length) < 0 := by simpa using hc22
    refine E_seq ?_
    refine E_region' (L:=[0]) rfl ?_
    refine xas ?_
    refine EOps_nil ?_
    refine E_ret ?_
    refine⟨_,[],rfl,rfl,int_eq ?_,rfl⟩
    rw [szR_end hx (by unfold msZ;omega)]
   ·have hn2 : ¬ szR left (s.head.length + (s.tails.length + totL s.tails) + s.hist.length) < 0 := by simpa using hc22
    refine E_skip ?_
    refine E_seq ?_
    refine E_region' (L:=[0,1,2,3,4]) rfl ?_
    refine x_pure rfl rfl rfl (l_field rfl fo_27_3) ?_
    refine x_light rfl rfl rfl (L_load rfl (xb0 ty_24)) ?_
    refine xmv ?_
    refine x_call rfl rfl rfl rfl rfl ca_56 (c_laws_szMapS s.maps (szR left (s.head.length+(s.tails.length+totL s.tails)+s.hist.length)) (szR_rng hl)) ?_
    rintro r S ⟨rfl,rfl⟩
    rw [szR_f _ hn2]
    refine xas ?_
    refine EOps_nil ?_
    refine E_seq ?_
    refine E_seq ?_
    refine E_region' (L:=[0,1]) rfl ?_
    refine xmv ?_
    refine x_pure rfl rfl rfl (L_bin rfl rfl rfl rfl) ?_
    refine EOps_nil ?_
    refine E_cond rfl (fun hc28=>?_) (fun hc28=>?_)
    ·have hx : szR left (s.head.length + (s.tails.length + totL s.tails) + s.hist.length + (s.maps.length + totZ s.maps)) < 0 := by simpa using hc28
     refine E_seq ?_
     refine E_region' (L:=[0]) rfl ?_
     refine xas ?_
     refine EOps_nil ?_
     refine E_ret ?_
     refine⟨_,[],rfl,rfl,int_eq ?_,rfl⟩
     rw [szR_end hx (by unfold msZ;omega)]
    ·have hn3 : ¬ szR left (s.head.length + (s.tails.length + totL s.tails) + s.hist.length + (s.maps.length + totZ s.maps)) < 0 := by simpa using hc28
     refine E_skip ?_
     refine E_seq ?_
     refine E_region' (L:=[0,1,2,3,4]) rfl ?_
     refine x_pure rfl rfl rfl (l_field rfl fo_27_4) ?_
     refine x_light rfl rfl rfl (L_load rfl (xb0 ty_25)) ?_
     refine xmv ?_
     refine x_call rfl rfl rfl rfl rfl ca_57 (c_laws_szBoolS s.built (szR left (s.head.length+(s.tails.length+totL s.tails)+s.hist.length+(s.maps.length+totZ s.maps))) (szR_rng hl)) ?_
     rintro r S ⟨rfl,rfl⟩
     rw [szR_f _ hn3]
     refine xas ?_
     refine EOps_nil ?_
     refine E_seq ?_
     refine E_seq ?_
     refine E_region' (L:=[0,1]) rfl ?_
     refine xmv ?_
     refine x_pure rfl rfl rfl (L_bin rfl rfl rfl rfl) ?_
     refine EOps_nil ?_
     refine E_cond rfl (fun hc34=>?_) (fun hc34=>?_)
     ·have hx : szR left (s.head.length + (s.tails.length + totL s.tails) + s.hist.length + (s.maps.length + totZ s.maps) + s.built.length) < 0 := by simpa using hc34
      refine E_seq ?_
      refine E_region' (L:=[0]) rfl ?_
      refine xas ?_
      refine EOps_nil ?_
      refine E_ret ?_
      refine⟨_,[],rfl,rfl,int_eq ?_,rfl⟩
      rw [szR_end hx (by unfold msZ;omega)]
     ·have hn4 : ¬ szR left (s.head.length + (s.tails.length + totL s.tails) + s.hist.length + (s.maps.length + totZ s.maps) + s.built.length) < 0 := by simpa using hc34
      refine E_skip ?_
      refine E_seq ?_
      refine E_region' (L:=[0,1,2,3,4]) rfl ?_
      refine x_pure rfl rfl rfl (l_field rfl fo_27_5) ?_
      refine x_light rfl rfl rfl (L_load rfl (xb0 ty_22)) ?_
      refine xmv ?_
      refine x_call rfl rfl rfl rfl rfl ca_54 (c_laws_szIntS s.used (szR left (s.head.length+(s.tails.length+totL s.tails)+s.hist.length+(s.maps.length+totZ s.maps)+s.built.length)) (szR_rng hl)) ?_
      rintro r S ⟨rfl,rfl⟩
      rw [szR_f _ hn4]
      refine xas ?_
      refine EOps_nil ?_
      refine E_seq ?_
      refine E_seq ?_
      refine E_region' (L:=[0,1]) rfl ?_
      refine xmv ?_
      refine x_pure rfl rfl rfl (L_bin rfl rfl rfl rfl) ?_
      refine EOps_nil ?_
      refine E_cond rfl (fun hc40=>?_) (fun hc40=>?_)
      ·have hx : szR left (s.head.length + (s.tails.length + totL s.tails) + s.hist.length + (s.maps.length + totZ s.maps) + s.built.length + s.used.length) < 0 := by simpa using hc40
       refine E_seq ?_
       refine E_region' (L:=[0]) rfl ?_
       refine xas ?_
       refine EOps_nil ?_
       refine E_ret ?_
       refine⟨_,[],rfl,rfl,int_eq ?_,rfl⟩
       rw [szR_end hx (by unfold msZ;omega)]
      ·have hn5 : ¬ szR left (s.head.length + (s.tails.length + totL s.tails) + s.hist.length + (s.maps.length + totZ s.maps) + s.built.length + s.used.length) < 0 := by simpa using hc40
       refine E_skip ?_
       refine E_seq ?_
       refine E_region' (L:=[0,1]) rfl ?_
       refine xmv ?_
       refine xas ?_
       refine EOps_nil ?_
       refine E_ret ?_
       refine⟨_,[],rfl,rfl,rfl,rfl⟩

set_option maxRecDepth 20000 in
set_option maxHeartbeats 4000000 in
theorem c_laws_toMapSet (s : MSt) (hn : msZ s ≤ 1048576) : EFn Tryz.prog 12 [.agg (msC s)] [] (fun r S => r = .agg (msO 0 s) ∧ S = msR 3 22 72 4 s) := by
 refine E_fn Tryz.func12 rfl (Nat.le_of_ble_eq_true rfl) ?_
 refine E_G (n:=0) rfl ?_
 unfold msZ at hn
 refine G_seq ?_
 refine G_region' (L:=[0,1]) rfl ?_
 refine x_box rfl rfl rfl rfl rfl ?_
 refine x_alloc rfl rfl rfl rfl za_31 ?_
 refine EOps_nil ?_
 refine G_seq ?_
 refine G_region' (L:=[0]) rfl ?_
 refine x_alloc rfl rfl rfl rfl za_31 ?_
 refine EOps_nil ?_
 refine G_seq ?_
 refine g_tidy [0,1,2,3] ?_
 refine G_region' (L:=[0,1,2,3,4]) rfl ?_
 refine x_pure rfl rfl rfl (l_field rfl fo_27_0) ?_
 refine x_light rfl rfl rfl (L_load rfl (xb0 ty_22)) ?_
 refine x_call rfl rfl rfl rfl rfl ca_21 (c_laws_toIntS s.head (by omega)) ?_
 rintro r S ⟨rfl,rfl⟩
 refine x_pure rfl rfl rfl (l_field rfl fo_31_0) ?_
 refine EOps_go rfl rfl (EOp_store rfl rfl rfl (xb1 ty_22) ?_)
 refine EOps_nil ?_
 refine G_seq ?_
 refine g_tidy [0,1,2,3] ?_
 refine G_region' (L:=[0,1,2,3,4]) rfl ?_
 refine x_pure rfl rfl rfl (l_field rfl fo_27_1) ?_
 refine x_light rfl rfl rfl (L_load rfl (xb0 ty_23)) ?_
 refine x_call rfl rfl rfl rfl rfl ca_61 (c_laws_toIntSS s.tails (by omega)) ?_
 rintro r S ⟨rfl,rfl⟩
 refine x_pure rfl rfl rfl (l_field rfl fo_31_1) ?_
 refine EOps_go rfl rfl (EOp_store rfl rfl rfl (xb1 ty_23) ?_)
 refine EOps_nil ?_
 refine G_seq ?_
 refine g_tidy [0,1,2,3] ?_
 refine G_region' (L:=[0,1,2,3,4]) rfl ?_
 refine x_pure rfl rfl rfl (l_field rfl fo_27_2) ?_
 refine x_light rfl rfl rfl (L_load rfl (xb0 ty_22)) ?_
 refine x_call rfl rfl rfl rfl rfl ca_21 (c_laws_toIntS s.hist (by omega)) ?_
 rintro r S ⟨rfl,rfl⟩
 refine x_pure rfl rfl rfl (l_field rfl fo_31_2) ?_
 refine EOps_go rfl rfl (EOp_store rfl rfl rfl (xb1 ty_22) ?_)
 refine EOps_nil ?_
 refine G_seq ?_
 refine g_tidy [0,1,2,3] ?_
 refine G_region' (L:=[0,1,2,3,4]) rfl ?_
 refine x_pure rfl rfl rfl (l_field rfl fo_27_3) ?_
 refine x_light rfl rfl rfl (L_load rfl (xb0 ty_24)) ?_
 refine x_call rfl rfl rfl rfl rfl ca_62 (c_laws_toMapS s.maps (by omega)) ?_
 rintro r S ⟨rfl,rfl⟩
 refine x_pure rfl rfl rfl (l_field rfl fo_31_3) ?_
 refine EOps_go rfl rfl (EOp_store rfl rfl rfl (xb1 ty_29) ?_)
 refine EOps_nil ?_
 refine G_seq ?_
 refine g_tidy [0,1,2,3] ?_
 refine G_region' (L:=[0,1,2,3,4]) rfl ?_
 refine x_pure rfl rfl rfl (l_field rfl fo_27_4) ?_
 refine x_light rfl rfl rfl (L_load rfl (xb0 ty_25)) ?_
 refine x_call rfl rfl rfl rfl rfl ca_63 (c_laws_toBoolS s.built (by omega)) ?_
 rintro r S ⟨rfl,rfl⟩
 refine x_pure rfl rfl rfl (l_field rfl fo_31_4) ?_
 refine EOps_go rfl rfl (EOp_store rfl rfl rfl (xb1 ty_25) ?_)
 refine EOps_nil ?_
 refine G_seq ?_
 refine g_tidy [0,1,2,3] ?_
 refine G_region' (L:=[0,1,2,3,4]) rfl ?_
 refine x_pure rfl rfl rfl (l_field rfl fo_27_5) ?_
 refine x_light rfl rfl rfl (L_load rfl (xb0 ty_22)) ?_
 refine x_call rfl rfl rfl rfl rfl ca_21 (c_laws_toIntS s.used (by omega)) ?_
 rintro r S ⟨rfl,rfl⟩
 refine x_pure rfl rfl rfl (l_field rfl fo_31_5) ?_
 refine EOps_go rfl rfl (EOp_store rfl rfl rfl (xb1 ty_22) ?_)
 refine EOps_nil ?_
 refine G_seq ?_
 refine G_region' (L:=[0,1,2,3]) rfl ?_
 refine x_pure rfl rfl rfl (l_field rfl fo_27_6) ?_
 refine x_light rfl rfl rfl (L_load rfl (xb0 ty_3)) ?_
 refine x_pure rfl rfl rfl (l_field rfl fo_31_6) ?_
 refine EOps_go rfl rfl (EOp_store rfl rfl rfl (xb1 ty_3) ?_)
 refine EOps_nil ?_
 refine G_seq ?_
 refine G_region' (L:=[0,1,2,3]) rfl ?_
 refine x_pure rfl rfl rfl (l_field rfl fo_27_7) ?_
 refine x_light rfl rfl rfl (L_load rfl (xb0 ty_3)) ?_
 refine x_pure rfl rfl rfl (l_field rfl fo_31_7) ?_
 refine EOps_go rfl rfl (EOp_store rfl rfl rfl (xb1 ty_3) ?_)
 refine EOps_nil ?_
 refine G_seq ?_
 refine G_region' (L:=[0,1]) rfl ?_
 refine x_light rfl rfl rfl (L_load rfl (xb0 ty_31)) ?_
 refine EOps_go rfl rfl (EOp_store rfl rfl rfl (xb1 ty_31) ?_)
 refine EOps_nil ?_
 refine G_ret ?_
 exact⟨_,[3,4,5,6,7,8],rfl,rfl,rfl,rfl⟩

set_option maxRecDepth 20000 in
set_option maxHeartbeats 4000000 in
theorem c_laws_eqMapSet (a b : MSt) : EFn Tryz.prog 14 [.agg (msC a), .agg (msC b)] [] (fun r S => r = .c (.sc (.bool (decide (a = b)))) ∧ S = []) := by
 refine E_fn Tryz.func14 rfl (Nat.le_of_ble_eq_true rfl) ?_
 obtain⟨a0,a1,a2,a3,a4,a5,a6,a7⟩:=a
 obtain⟨b0,b1,b2,b3,b4,b5,b6,b7⟩:=b
 refine E_seq ?_
 refine E_region' (L:=[0,1,2]) rfl ?_
 refine x_box rfl rfl rfl rfl rfl ?_
 refine x_box rfl rfl rfl rfl rfl ?_
 refine xas ?_
 refine EOps_nil ?_
 refine E_seq ?_
 refine E_seq ?_
 refine e_tidy [0,1,2,3,4] ?_
 refine E_region' (L:=[0,1,2,3,4,5]) rfl ?_
 refine x_pure rfl rfl rfl (l_field rfl fo_31_0) ?_
 refine x_light rfl rfl rfl (L_load rfl (xb0 ty_22)) ?_
 refine x_pure rfl rfl rfl (l_field rfl fo_31_0) ?_
 refine x_light rfl rfl rfl (L_load rfl (xb0 ty_22)) ?_
 refine x_call rfl rfl rfl rfl rfl ca_25 (c_laws_eqIntS a0 b0) ?_
 rintro r S ⟨rfl,rfl⟩
 refine x_pure rfl rfl rfl (L_not rfl rfl) ?_
 refine EOps_nil ?_
 refine E_cond rfl (fun hc10=>?_) (fun hc10=>?_)
 ·refine E_seq ?_
  refine E_region' (L:=[0]) rfl ?_
  refine xas ?_
  refine EOps_nil ?_
  refine E_ret ?_
  refine⟨_,[],rfl,rfl,bool_eq ?_,rfl⟩
  simp_all
 ·refine E_skip ?_
  refine E_seq ?_
  refine E_seq ?_
  refine e_tidy [0,1,2,3,4,10] ?_
  refine E_region' (L:=[0,1,2,3,4,5]) rfl ?_
  refine x_pure rfl rfl rfl (l_field rfl fo_31_1) ?_
  refine x_light rfl rfl rfl (L_load rfl (xb0 ty_23)) ?_
  refine x_pure rfl rfl rfl (l_field rfl fo_31_1) ?_
  refine x_light rfl rfl rfl (L_load rfl (xb0 ty_23)) ?_
  refine x_call rfl rfl rfl rfl rfl ca_23 (c_laws_eqIntSS a1 b1) ?_
  rintro r S ⟨rfl,rfl⟩
  refine x_pure rfl rfl rfl (L_not rfl rfl) ?_
  refine EOps_nil ?_
  refine E_cond rfl (fun hc16=>?_) (fun hc16=>?_)
  ·refine E_seq ?_
   refine E_region' (L:=[0]) rfl ?_
   refine xas ?_
   refine EOps_nil ?_
   refine E_ret ?_
   refine⟨_,[],rfl,rfl,bool_eq ?_,rfl⟩
   simp_all
  ·refine E_skip ?_
   refine E_seq ?_
   refine E_seq ?_
   refine e_tidy [0,1,2,3,4,10,16] ?_
   refine E_region' (L:=[0,1,2,3,4,5]) rfl ?_
   refine x_pure rfl rfl rfl (l_field rfl fo_31_2) ?_
   refine x_light rfl rfl rfl (L_load rfl (xb0 ty_22)) ?_
   refine x_pure rfl rfl rfl (l_field rfl fo_31_2) ?_
   refine x_light rfl rfl rfl (L_load rfl (xb0 ty_22)) ?_
   refine x_call rfl rfl rfl rfl rfl ca_25 (c_laws_eqIntS a2 b2) ?_
   rintro r S ⟨rfl,rfl⟩
   refine x_pure rfl rfl rfl (L_not rfl rfl) ?_
   refine EOps_nil ?_
   refine E_cond rfl (fun hc22=>?_) (fun hc22=>?_)
   ·refine E_seq ?_
    refine E_region' (L:=[0]) rfl ?_
    refine xas ?_
    refine EOps_nil ?_
    refine E_ret ?_
    refine⟨_,[],rfl,rfl,bool_eq ?_,rfl⟩
    simp_all
   ·refine E_skip ?_
    refine E_seq ?_
    refine E_seq ?_
    refine e_tidy [0,1,2,3,4,10,16,22] ?_
    refine E_region' (L:=[0,1,2,3,4,5]) rfl ?_
    refine x_pure rfl rfl rfl (l_field rfl fo_31_3) ?_
    refine x_light rfl rfl rfl (L_load rfl (xb0 ty_29)) ?_
    refine x_pure rfl rfl rfl (l_field rfl fo_31_3) ?_
    refine x_light rfl rfl rfl (L_load rfl (xb0 ty_29)) ?_
    refine x_call rfl rfl rfl rfl rfl ca_67 (c_laws_eqMapS a3 b3) ?_
    rintro r S ⟨rfl,rfl⟩
    refine x_pure rfl rfl rfl (L_not rfl rfl) ?_
    refine EOps_nil ?_
    refine E_cond rfl (fun hc28=>?_) (fun hc28=>?_)
    ·refine E_seq ?_
     refine E_region' (L:=[0]) rfl ?_
     refine xas ?_
     refine EOps_nil ?_
     refine E_ret ?_
     refine⟨_,[],rfl,rfl,bool_eq ?_,rfl⟩
     simp_all
    ·refine E_skip ?_
     refine E_seq ?_
     refine E_seq ?_
     refine e_tidy [0,1,2,3,4,10,16,22,28] ?_
     refine E_region' (L:=[0,1,2,3,4,5]) rfl ?_
     refine x_pure rfl rfl rfl (l_field rfl fo_31_4) ?_
     refine x_light rfl rfl rfl (L_load rfl (xb0 ty_25)) ?_
     refine x_pure rfl rfl rfl (l_field rfl fo_31_4) ?_
     refine x_light rfl rfl rfl (L_load rfl (xb0 ty_25)) ?_
     refine x_call rfl rfl rfl rfl rfl ca_68 (c_laws_eqBoolS a4 b4) ?_
     rintro r S ⟨rfl,rfl⟩
     refine x_pure rfl rfl rfl (L_not rfl rfl) ?_
     refine EOps_nil ?_
     refine E_cond rfl (fun hc34=>?_) (fun hc34=>?_)
     ·refine E_seq ?_
      refine E_region' (L:=[0]) rfl ?_
      refine xas ?_
      refine EOps_nil ?_
      refine E_ret ?_
      refine⟨_,[],rfl,rfl,bool_eq ?_,rfl⟩
      simp_all
     ·refine E_skip ?_
      refine E_seq ?_
      refine E_seq ?_
      refine e_tidy [0,1,2,3,4,10,16,22,28,34] ?_
      refine E_region' (L:=[0,1,2,3,4,5]) rfl ?_
      refine x_pure rfl rfl rfl (l_field rfl fo_31_5) ?_
      refine x_light rfl rfl rfl (L_load rfl (xb0 ty_22)) ?_
      refine x_pure rfl rfl rfl (l_field rfl fo_31_5) ?_
      refine x_light rfl rfl rfl (L_load rfl (xb0 ty_22)) ?_
      refine x_call rfl rfl rfl rfl rfl ca_25 (c_laws_eqIntS a5 b5) ?_
      rintro r S ⟨rfl,rfl⟩
      refine x_pure rfl rfl rfl (L_not rfl rfl) ?_
      refine EOps_nil ?_
      refine E_cond rfl (fun hc40=>?_) (fun hc40=>?_)
      ·refine E_seq ?_
       refine E_region' (L:=[0]) rfl ?_
       refine xas ?_
       refine EOps_nil ?_
       refine E_ret ?_
       refine⟨_,[],rfl,rfl,bool_eq ?_,rfl⟩
       simp_all
      ·refine E_skip ?_
       refine E_seq ?_
       refine E_seq ?_
       refine E_region' (L:=[0,1,2,3,4]) rfl ?_
       refine x_pure rfl rfl rfl (l_field rfl fo_31_6) ?_
       refine x_light rfl rfl rfl (L_load rfl (xb0 ty_3)) ?_
       refine x_pure rfl rfl rfl (l_field rfl fo_31_6) ?_
       refine x_light rfl rfl rfl (L_load rfl (xb0 ty_3)) ?_
       refine x_pure rfl rfl rfl (L_bin rfl rfl rfl rfl) ?_
       refine EOps_nil ?_
       refine E_cond rfl (fun hc45=>?_) (fun hc45=>?_)
       ·refine E_seq ?_
        refine E_region' (L:=[0]) rfl ?_
        refine xas ?_
        refine EOps_nil ?_
        refine E_ret ?_
        refine⟨_,[],rfl,rfl,bool_eq ?_,rfl⟩
        simp_all
       ·refine E_skip ?_
        refine E_seq ?_
        refine E_seq ?_
        refine E_region' (L:=[0,1,2,3,4]) rfl ?_
        refine x_pure rfl rfl rfl (l_field rfl fo_31_7) ?_
        refine x_light rfl rfl rfl (L_load rfl (xb0 ty_3)) ?_
        refine x_pure rfl rfl rfl (l_field rfl fo_31_7) ?_
        refine x_light rfl rfl rfl (L_load rfl (xb0 ty_3)) ?_
        refine x_pure rfl rfl rfl (L_bin rfl rfl rfl rfl) ?_
        refine EOps_nil ?_
        refine E_cond rfl (fun hc50=>?_) (fun hc50=>?_)
        ·refine E_seq ?_
         refine E_region' (L:=[0]) rfl ?_
         refine xas ?_
         refine EOps_nil ?_
         refine E_ret ?_
         refine⟨_,[],rfl,rfl,bool_eq ?_,rfl⟩
         simp_all
        ·refine E_skip ?_
         refine E_seq ?_
         refine E_region' (L:=[0]) rfl ?_
         refine xas ?_
         refine EOps_nil ?_
         refine E_ret ?_
         refine⟨_,[],rfl,rfl,bool_eq ?_,rfl⟩
         simp_all

set_option maxRecDepth 20000 in
set_option maxHeartbeats 4000000 in
theorem c_laws_markMapSet (q : Int) (s : MSt) (hn : msZ s ≤ 1048576) (hq : 0 ≤ q ∧ q ≤ 1000000000) : EFn Tryz.prog 15 [.agg (msO 0 s), .c (.sc (.int .i64 q))] (msR 3 22 72 4 s) (fun r S => r = .c (.sc (.int .i64 (q + msM s))) ∧ S = msR 3 22 72 4 (mrkS q s)) := by
 refine E_fn Tryz.func15 rfl (Nat.le_of_ble_eq_true rfl) ?_
 refine E_G (n:=6) rfl ?_
 have hle:=totM_le s.maps
 unfold msZ at hn
 refine G_seq ?_
 refine G_region' (L:=[0,1]) rfl ?_
 refine x_box rfl rfl rfl rfl rfl ?_
 refine xas ?_
 refine EOps_nil ?_
 refine G_seq ?_
 refine g_tidy [0,1,2,4] ?_
 refine G_region' (L:=[0,1,2,3,4]) rfl ?_
 refine x_pure rfl rfl rfl (l_field rfl fo_31_0) ?_
 refine x_light rfl rfl rfl (L_load rfl (xb0 ty_22)) ?_
 refine xmv ?_
 refine x_frame [0] rfl rfl rfl rfl rfl ca_27 rfl (c_laws_markIntS _ s.head.length (q) s.head rfl (by omega) (by omega)) ?_
 rintro r S ⟨r0,S0,⟨rfl,rfl⟩,rfl,rfl⟩
 refine xas ?_
 refine EOps_nil ?_
 refine G_seq ?_
 refine g_tidy [0,1,2,4] ?_
 refine G_region' (L:=[0,1,2,3,4]) rfl ?_
 refine x_pure rfl rfl rfl (l_field rfl fo_31_1) ?_
 refine x_light rfl rfl rfl (L_load rfl (xb0 ty_23)) ?_
 refine xmv ?_
 refine x_frame [1] rfl rfl rfl rfl rfl ca_28 rfl (c_laws_markIntSS _ s.tails.length (q+s.head.length) s.tails rfl (by omega) (by omega)) ?_
 rintro r S ⟨r0,S0,⟨rfl,rfl⟩,rfl,rfl⟩
 refine xas ?_
 refine EOps_nil ?_
 refine G_seq ?_
 refine g_tidy [0,1,2,4] ?_
 refine G_region' (L:=[0,1,2,3,4]) rfl ?_
 refine x_pure rfl rfl rfl (l_field rfl fo_31_2) ?_
 refine x_light rfl rfl rfl (L_load rfl (xb0 ty_22)) ?_
 refine xmv ?_
 refine x_frame [2] rfl rfl rfl rfl rfl ca_27 rfl (c_laws_markIntS _ s.hist.length (q+s.head.length+totL s.tails) s.hist rfl (by omega) (by omega)) ?_
 rintro r S ⟨r0,S0,⟨rfl,rfl⟩,rfl,rfl⟩
 refine xas ?_
 refine EOps_nil ?_
 refine G_seq ?_
 refine g_tidy [0,1,2,4] ?_
 refine G_region' (L:=[0,1,2,3,4]) rfl ?_
 refine x_pure rfl rfl rfl (l_field rfl fo_31_3) ?_
 refine x_light rfl rfl rfl (L_load rfl (xb0 ty_29)) ?_
 refine xmv ?_
 refine x_frame [3] rfl rfl rfl rfl rfl ca_69 rfl (c_laws_markMapS _ s.maps.length (q+s.head.length+totL s.tails+s.hist.length) s.maps rfl (by omega) (by omega)) ?_
 rintro r S ⟨r0,S0,⟨rfl,rfl⟩,rfl,rfl⟩
 refine xas ?_
 refine EOps_nil ?_
 refine G_seq ?_
 refine g_tidy [0,1,2,4] ?_
 refine G_region' (L:=[0,1,2,3,4]) rfl ?_
 refine x_pure rfl rfl rfl (l_field rfl fo_31_4) ?_
 refine x_light rfl rfl rfl (L_load rfl (xb0 ty_25)) ?_
 refine xmv ?_
 refine x_frame [4] rfl rfl rfl rfl rfl ca_70 rfl (c_laws_markBoolS _ s.built.length (q+s.head.length+totL s.tails+s.hist.length+totM s.maps) s.built rfl (by omega) (by omega)) ?_
 rintro r S ⟨r0,S0,⟨rfl,rfl⟩,rfl,rfl⟩
 refine xas ?_
 refine EOps_nil ?_
 refine G_seq ?_
 refine g_tidy [0,1,2,4] ?_
 refine G_region' (L:=[0,1,2,3,4]) rfl ?_
 refine x_pure rfl rfl rfl (l_field rfl fo_31_5) ?_
 refine x_light rfl rfl rfl (L_load rfl (xb0 ty_22)) ?_
 refine xmv ?_
 refine x_frame [5] rfl rfl rfl rfl rfl ca_27 rfl (c_laws_markIntS _ s.used.length (q+s.head.length+totL s.tails+s.hist.length+totM s.maps+s.built.length) s.used rfl (by omega) (by omega)) ?_
 rintro r S ⟨r0,S0,⟨rfl,rfl⟩,rfl,rfl⟩
 refine xas ?_
 refine EOps_nil ?_
 refine G_seq ?_
 refine G_region' (L:=[0,1]) rfl ?_
 refine xmv ?_
 refine xas ?_
 refine EOps_nil ?_
 refine G_ret ?_
 refine⟨_,[],rfl,rfl,int_eq ?_,?_⟩
 ·unfold msM
  omega
 ·rfl

end Go.Proofs.YthlhmpknngidmaaGreat.E
