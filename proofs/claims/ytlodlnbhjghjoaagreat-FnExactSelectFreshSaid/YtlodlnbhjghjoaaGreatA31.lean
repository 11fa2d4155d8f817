/- Walks through functions, by program out of the session's annotations. -/
import Derived.Test.YtlodlnbhjghjoaaGreatA24
import Derived.Test.YtlodlnbhjghjoaaGreatA20
import Derived.Test.YtlodlnbhjghjoaaGreatF3
namespace Go.Proofs.YtlodlnbhjghjoaaGreat.E
open Go Go.RowKit Go.Proofs
set_option linter.unusedVariables false
set_option linter.unusedSimpArgs false

set_option maxRecDepth 20000 in
set_option maxHeartbeats 2000000 in
theorem c_laws_szPending (a : Pnd) (left : Int) (hl : -1 ≤ left ∧ left ≤ 1048576) : EFn Tryz.prog 62 [.agg (pndC a), .c (.sc (.int .i64 left))] [] (fun r S => r = .c (.sc (.int .i64 (szR left (a.ins.length + a.del.length)))) ∧ S = []) := by
 refine E_fn Tryz.func62 rfl (Nat.le_of_ble_eq_true rfl) ?_
 refine E_seq ?_
 refine E_region' (L := [0, 1]) rfl ?_
 refine x_box rfl rfl rfl rfl rfl ?_
 refine xas ?_
 refine EOps_nil ?_
 refine E_seq ?_
 refine E_region' (L := [0, 1, 2, 3, 4]) rfl ?_
 refine x_pure rfl rfl rfl (l_field rfl fo_87_0) ?_
 refine x_light rfl rfl rfl (L_load rfl (by first | exact d_bp ty_85 | exact ld_rp ty_85 rfl | exact d_ep ty_85)) ?_
 refine xmv ?_
 refine x_call rfl rfl rfl rfl rfl ca_136 (c_laws_szItemS (a.ins) (left) (hl)) ?_
 rintro r S ⟨rfl, rfl⟩
 refine xas ?_
 refine EOps_nil ?_
 refine E_seq ?_
 refine E_seq ?_
 refine E_region' (L := [0, 1]) rfl ?_
 refine xmv ?_
 refine x_pure rfl rfl rfl (L_bin rfl rfl rfl rfl) ?_
 refine EOps_nil ?_
 refine E_cond rfl (fun hc10 => ?_) (fun hc10 => ?_)
 ·have h0 : szR (left) (a.ins.length) < 0 := by simpa using hc10
  refine E_seq ?_
  refine E_region' (L := [0]) rfl ?_
  refine xas ?_
  refine EOps_nil ?_
  refine E_ret ?_
  refine ⟨_, [], rfl, rfl, int_eq ?_, rfl⟩
  simp only [szR] at *
  repeat' split at *
  all_goals omega
 ·have h0 : ¬ szR (left) (a.ins.length) < 0 := by simpa using hc10
  refine E_skip ?_
  refine E_seq ?_
  refine E_region' (L := [0, 1, 2, 3, 4]) rfl ?_
  refine x_pure rfl rfl rfl (l_field rfl fo_87_1) ?_
  refine x_light rfl rfl rfl (L_load rfl (by first | exact d_bp ty_22 | exact ld_rp ty_22 rfl | exact d_ep ty_22)) ?_
  refine xmv ?_
  refine x_call rfl rfl rfl rfl rfl ca_97 (c_laws_szIntS (a.del) (szR (left) (a.ins.length)) (szR_rng (hl))) ?_
  rintro r S ⟨rfl, rfl⟩
  refine xas ?_
  refine EOps_nil ?_
  refine E_seq ?_
  refine E_seq ?_
  refine E_region' (L := [0, 1]) rfl ?_
  refine xmv ?_
  refine x_pure rfl rfl rfl (L_bin rfl rfl rfl rfl) ?_
  refine EOps_nil ?_
  refine E_cond rfl (fun hc16 => ?_) (fun hc16 => ?_)
  ·have h1 : szR (szR (left) (a.ins.length)) (a.del.length) < 0 := by simpa using hc16
   refine E_seq ?_
   refine E_region' (L := [0]) rfl ?_
   refine xas ?_
   refine EOps_nil ?_
   refine E_ret ?_
   refine ⟨_, [], rfl, rfl, int_eq ?_, rfl⟩
   simp only [szR] at *
   repeat' split at *
   all_goals omega
  ·have h1 : ¬ szR (szR (left) (a.ins.length)) (a.del.length) < 0 := by simpa using hc16
   refine E_skip ?_
   refine E_seq ?_
   refine E_region' (L := [0, 1]) rfl ?_
   refine xmv ?_
   refine xas ?_
   refine EOps_nil ?_
   refine E_ret ?_
   refine ⟨_, [], rfl, rfl, int_eq ?_, rfl⟩
   simp only [szR] at *
   repeat' split at *
   all_goals omega

set_option maxRecDepth 20000 in
set_option maxHeartbeats 2000000 in
theorem c_laws_toPending (a : Pnd) (hn : a.ins.length ≤ 1048576 ∧ a.del.length ≤ 1048576) : EFn Tryz.prog 64 [.agg (pndC a)] [] (fun r S => r = .agg [.sl 0 0 a.ins.length a.ins.length, .sl 1 0 a.del.length a.del.length] ∧ S = [.row 104 2 (pairs a.ins), .row 3 1 (ints a.del)]) := by
 refine E_fn Tryz.func64 rfl (Nat.le_of_ble_eq_true rfl) ?_
 refine E_seq ?_
 refine E_region' (L := [0, 1]) rfl ?_
 refine x_box rfl rfl rfl rfl rfl ?_
 refine x_alloc rfl rfl rfl rfl za_91 ?_
 refine EOps_nil ?_
 refine E_seq ?_
 refine E_region' (L := [0]) rfl ?_
 refine x_alloc rfl rfl rfl rfl za_91 ?_
 refine EOps_nil ?_
 refine E_seq ?_
 refine E_region' (L := [0, 1, 2, 3, 4]) rfl ?_
 refine x_pure rfl rfl rfl (l_field rfl fo_87_0) ?_
 refine x_light rfl rfl rfl (L_load rfl (by first | exact d_bp ty_85 | exact ld_rp ty_85 rfl | exact d_ep ty_85)) ?_
 refine x_call rfl rfl rfl rfl rfl ca_139 (c_laws_toItemS a.ins (by omega)) ?_
 rintro r S ⟨rfl, rfl⟩
 refine x_pure rfl rfl rfl (l_field rfl fo_91_0) ?_
 refine EOps_go rfl rfl (EOp_store rfl rfl rfl (by first | exact s_bp ty_89 | exact s_ep ty_89) ?_)
 refine EOps_nil ?_
 refine E_seq ?_
 refine E_region' (L := [0, 1, 2, 3, 4]) rfl ?_
 refine x_pure rfl rfl rfl (l_field rfl fo_87_1) ?_
 refine x_light rfl rfl rfl (L_load rfl (by first | exact d_bp ty_22 | exact ld_rp ty_22 rfl | exact d_ep ty_22)) ?_
 refine x_call rfl rfl rfl rfl rfl ca_14 (c_laws_toIntS a.del (by omega)) ?_
 rintro r S ⟨rfl, rfl⟩
 refine x_pure rfl rfl rfl (l_field rfl fo_91_1) ?_
 refine EOps_go rfl rfl (EOp_store rfl rfl rfl (by first | exact s_bp ty_22 | exact s_ep ty_22) ?_)
 refine EOps_nil ?_
 refine E_seq ?_
 refine E_region' (L := [0, 1]) rfl ?_
 refine x_light rfl rfl rfl (L_load rfl (by first | exact d_bp ty_91 | exact ld_rp ty_91 rfl | exact d_ep ty_91)) ?_
 refine EOps_go rfl rfl (EOp_store rfl rfl rfl (by first | exact s_bp ty_91 | exact s_ep ty_91) ?_)
 refine EOps_nil ?_
 refine E_ret ?_
 exact ⟨_, [3, 4], rfl, rfl, rfl, rfl⟩

set_option maxRecDepth 20000 in
set_option maxHeartbeats 2000000 in
theorem c_laws_eqPending (a b : Pnd) : EFn Tryz.prog 66 [.agg (pndC a), .agg (pndC b)] [] (fun r S => r = .c (.sc (.bool (decide (a = b)))) ∧ S = []) := by
 refine E_fn Tryz.func66 rfl (Nat.le_of_ble_eq_true rfl) ?_
 obtain ⟨a0, a1⟩ := a
 obtain ⟨b0, b1⟩ := b
 refine E_seq ?_
 refine E_region' (L := [0, 1, 2]) rfl ?_
 refine x_box rfl rfl rfl rfl rfl ?_
 refine x_box rfl rfl rfl rfl rfl ?_
 refine xas ?_
 refine EOps_nil ?_
 refine E_seq ?_
 refine E_seq ?_
 refine E_region' (L := [0, 1, 2, 3, 4, 5]) rfl ?_
 refine x_pure rfl rfl rfl (l_field rfl fo_91_0) ?_
 refine x_light rfl rfl rfl (L_load rfl (by first | exact d_bp ty_89 | exact ld_rp ty_89 rfl | exact d_ep ty_89)) ?_
 refine x_pure rfl rfl rfl (l_field rfl fo_91_0) ?_
 refine x_light rfl rfl rfl (L_load rfl (by first | exact d_bp ty_89 | exact ld_rp ty_89 rfl | exact d_ep ty_89)) ?_
 refine x_call rfl rfl rfl rfl rfl ca_142 (c_laws_eqItemS a0 b0) ?_
 rintro r S ⟨rfl, rfl⟩
 refine x_pure rfl rfl rfl (L_not rfl rfl) ?_
 refine EOps_nil ?_
 refine E_cond rfl (fun hc10 => ?_) (fun hc10 => ?_)
 ·refine E_seq ?_
  refine E_region' (L := [0]) rfl ?_
  refine xas ?_
  refine EOps_nil ?_
  refine E_ret ?_
  refine ⟨_, [], rfl, rfl, bool_eq ?_, rfl⟩
  simp_all
 ·refine E_skip ?_
  refine E_seq ?_
  refine E_seq ?_
  refine E_region' (L := [0, 1, 2, 3, 4, 5]) rfl ?_
  refine x_pure rfl rfl rfl (l_field rfl fo_91_1) ?_
  refine x_light rfl rfl rfl (L_load rfl (by first | exact d_bp ty_22 | exact ld_rp ty_22 rfl | exact d_ep ty_22)) ?_
  refine x_pure rfl rfl rfl (l_field rfl fo_91_1) ?_
  refine x_light rfl rfl rfl (L_load rfl (by first | exact d_bp ty_22 | exact ld_rp ty_22 rfl | exact d_ep ty_22)) ?_
  refine x_call rfl rfl rfl rfl rfl ca_19 (c_laws_eqIntS a1 b1) ?_
  rintro r S ⟨rfl, rfl⟩
  refine x_pure rfl rfl rfl (L_not rfl rfl) ?_
  refine EOps_nil ?_
  refine E_cond rfl (fun hc16 => ?_) (fun hc16 => ?_)
  ·refine E_seq ?_
   refine E_region' (L := [0]) rfl ?_
   refine xas ?_
   refine EOps_nil ?_
   refine E_ret ?_
   refine ⟨_, [], rfl, rfl, bool_eq ?_, rfl⟩
   simp_all
  ·refine E_skip ?_
   refine E_seq ?_
   refine E_region' (L := [0]) rfl ?_
   refine xas ?_
   refine EOps_nil ?_
   refine E_ret ?_
   refine ⟨_, [], rfl, rfl, bool_eq ?_, rfl⟩
   simp_all

set_option maxRecDepth 20000 in
set_option maxHeartbeats 2000000 in
theorem c_laws_markPending (e0 e1 : Nat) (q : Int) (a : Pnd) (n0 n1 : Nat) (h0 : a.ins.length = n0) (h1 : a.del.length = n1) (hb : n0 ≤ 1048576 ∧ n1 ≤ 1048576) (hq : 0 ≤ q ∧ q ≤ 1000000000000) : EFn Tryz.prog 67 [.agg [.sl 0 0 n0 n0, .sl 1 0 n1 n1], .c (.sc (.int .i64 q))] [.row e0 2 (pairs a.ins), .row e1 1 (ints a.del)] (fun r S => r = .c (.sc (.int .i64 (q + 2 * n0 + n1))) ∧ S = [.row e0 2 (pairs (seqP (q) n0)), .row e1 1 (ints (seqF (q + 2 * n0) n1))]) := by
 refine E_fn Tryz.func67 rfl (Nat.le_of_ble_eq_true rfl) ?_
 refine E_seq ?_
 refine E_region' (L := [0, 1]) rfl ?_
 refine x_box rfl rfl rfl rfl rfl ?_
 refine xas ?_
 refine EOps_nil ?_
 refine E_seq ?_
 refine e_tidy [0, 1, 2, 4] ?_
 refine E_region' (L := [0, 1, 2, 3, 4]) rfl ?_
 refine x_pure rfl rfl rfl (l_field rfl fo_91_0) ?_
 refine x_light rfl rfl rfl (L_load rfl (by first | exact d_bp ty_89 | exact ld_rp ty_89 rfl | exact d_ep ty_89)) ?_
 refine xmv ?_
 refine x_frame [0] rfl rfl rfl rfl rfl ca_143 rfl (c_laws_markItemS e0 n0 (q) a.ins h0 (by omega) (by omega)) ?_
 rintro r S ⟨r0, S0, ⟨rfl, rfl⟩, rfl, rfl⟩
 refine xas ?_
 refine EOps_nil ?_
 refine E_seq ?_
 refine e_tidy [0, 1, 2, 4] ?_
 refine E_region' (L := [0, 1, 2, 3, 4]) rfl ?_
 refine x_pure rfl rfl rfl (l_field rfl fo_91_1) ?_
 refine x_light rfl rfl rfl (L_load rfl (by first | exact d_bp ty_22 | exact ld_rp ty_22 rfl | exact d_ep ty_22)) ?_
 refine xmv ?_
 refine x_frame [1] rfl rfl rfl rfl rfl ca_21 rfl (c_laws_markIntS e1 n1 (q + 2 * n0) a.del h1 (by omega) (by omega)) ?_
 rintro r S ⟨r0, S0, ⟨rfl, rfl⟩, rfl, rfl⟩
 refine xas ?_
 refine EOps_nil ?_
 refine E_seq ?_
 refine E_region' (L := [0, 1]) rfl ?_
 refine xmv ?_
 refine xas ?_
 refine EOps_nil ?_
 refine E_ret ?_
 exact ⟨_, [], rfl, rfl, rfl, rfl⟩

set_option maxRecDepth 20000 in
set_option maxHeartbeats 2000000 in
theorem c_laws_heldPending (q : Int) (n0 n1 : Nat) (hb : n0 ≤ 1048576 ∧ n1 ≤ 1048576) (hq : 0 ≤ q ∧ q ≤ 1000000000000) : EFn Tryz.prog 68 [.agg [.ro (pairs (seqP (q) n0)), .ro (ints (seqF (q + 2 * n0) n1))], .c (.sc (.int .i64 q))] [] (fun r S => r = .c (.sc (.int .i64 (q + 2 * n0 + n1))) ∧ S = []) := by
 refine E_fn Tryz.func68 rfl (Nat.le_of_ble_eq_true rfl) ?_
 refine E_seq ?_
 refine E_region' (L := [0, 1]) rfl ?_
 refine x_box rfl rfl rfl rfl rfl ?_
 refine xas ?_
 refine EOps_nil ?_
 refine E_seq ?_
 refine e_tidy [0, 1, 2, 4] ?_
 refine E_region' (L := [0, 1, 2, 3, 4]) rfl ?_
 refine x_pure rfl rfl rfl (l_field rfl fo_91_0) ?_
 refine x_light rfl rfl rfl (L_load rfl (by first | exact d_bp ty_89 | exact ld_rp ty_89 rfl | exact d_ep ty_89)) ?_
 refine xmv ?_
 refine x_call rfl rfl rfl rfl rfl ca_144 (c_laws_heldItemS n0 (q) (by omega) (by omega)) ?_
 rintro r S ⟨rfl, rfl⟩
 refine xas ?_
 refine EOps_nil ?_
 refine E_seq ?_
 refine E_seq ?_
 refine E_region' (L := [0, 1]) rfl ?_
 refine xmv ?_
 refine x_pure rfl rfl rfl (L_bin rfl rfl rfl rfl) ?_
 refine EOps_nil ?_
 refine E_cond rfl (fun hc10 => ?_) (fun hc10 => ?_)
 ·simp at hc10; omega
 ·refine E_skip ?_
  refine E_seq ?_
  refine e_tidy [0, 1, 2, 4, 10] ?_
  refine E_region' (L := [0, 1, 2, 3, 4]) rfl ?_
  refine x_pure rfl rfl rfl (l_field rfl fo_91_1) ?_
  refine x_light rfl rfl rfl (L_load rfl (by first | exact d_bp ty_22 | exact ld_rp ty_22 rfl | exact d_ep ty_22)) ?_
  refine xmv ?_
  refine x_call rfl rfl rfl rfl rfl ca_34 (c_laws_heldIntS n1 (q + 2 * n0) (by omega) (by omega)) ?_
  rintro r S ⟨rfl, rfl⟩
  refine xas ?_
  refine EOps_nil ?_
  refine E_seq ?_
  refine E_seq ?_
  refine E_region' (L := [0, 1]) rfl ?_
  refine xmv ?_
  refine x_pure rfl rfl rfl (L_bin rfl rfl rfl rfl) ?_
  refine EOps_nil ?_
  refine E_cond rfl (fun hc16 => ?_) (fun hc16 => ?_)
  ·simp at hc16; omega
  ·refine E_skip ?_
   refine E_seq ?_
   refine E_region' (L := [0, 1]) rfl ?_
   refine xmv ?_
   refine xas ?_
   refine EOps_nil ?_
   refine E_ret ?_
   exact ⟨_, [], rfl, rfl, rfl, rfl⟩

end Go.Proofs.YtlodlnbhjghjoaaGreat.E
