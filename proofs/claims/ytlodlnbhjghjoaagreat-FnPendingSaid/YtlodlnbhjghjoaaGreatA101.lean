/- Walks through functions, by program out of the session's annotations. -/
import Derived.Test.YtlodlnbhjghjoaaGreatA100
import Derived.Test.YtlodlnbhjghjoaaGreatF4
namespace Go.Proofs.YtlodlnbhjghjoaaGreat.E
open Go Go.RowKit Go.Proofs
set_option linter.unusedVariables false
set_option linter.unusedSimpArgs false

def mvN (h a:Nat):Int:=if h=a then 0 else 1
theorem mvZ_1 {Z : List (Int × Int)} {h a : Nat} {z : Int × Int} (hne : h ≠ a) (hz : Z[a]? = some z) : (mvZ Z h a).map (·.1) = (Z.map (·.1)).set h z.1 := by
 rw [mvZ,if_neg hne,List.map_set,getD_of hz]
theorem mvZ_2 {Z : List (Int × Int)} {h a : Nat} {z : Int × Int} (hne : h ≠ a) (hz : Z[a]? = some z) : (mvZ Z h a).map (·.2) = (Z.map (·.2)).set h z.2 := by
 rw [mvZ,if_neg hne,List.map_set,getD_of hz]

set_option maxRecDepth 20000 in
set_option maxHeartbeats 2000000 in
theorem c___impl_Cracker__put (Z P : List (Int × Int)) (h a n m : Nat) (hn : Z.length = n) (hm : P.length = m) (hh : h < n) (ha : a < n) : EFn Tryz.prog 203 [.c (.bp 0 0), .c (.sc (.int .i64 (h : Int))), .c (.sc (.int .i64 (a : Int)))] [.box [.sl 1 0 n n, .sl 2 0 n n, .sl 3 0 m m], .row 3 1 (ints (Z.map (·.1))), .row 3 1 (ints (Z.map (·.2))), .row 151 2 (pairs P)] (fun r S => r = .c (.sc (.int .i64 (mvN h a))) ∧ S = [.box [.sl 1 0 n n, .sl 2 0 n n, .sl 3 0 m m], .row 3 1 (ints ((mvZ Z h a).map (·.1))), .row 3 1 (ints ((mvZ Z h a).map (·.2))), .row 151 2 (pairs P)]) := by
 refine E_fn Tryz.func203 rfl (Nat.le_of_ble_eq_true rfl) ?_
 have hl1:(ints (Z.map (·.1))).length=n:=by rw [ints_len,List.length_map];exact hn
 have hl2:(ints (Z.map (·.2))).length=n:=by rw [ints_len,List.length_map];exact hn
 obtain⟨z,hz⟩:=at_lt (l:=Z) (k:=a) (by omega)
 have hv:(Z.map (·.1))[a]? = some z.1:=by rw [List.getElem?_map,hz];rfl
 have hw:(Z.map (·.2))[a]? = some z.2:=by rw [List.getElem?_map,hz];rfl
 obtain⟨z0,hz0⟩:=at_lt (l:=Z) (k:=h) (by omega)
 have hv0:(Z.map (·.1))[h]? = some z0.1:=by rw [List.getElem?_map,hz0];rfl
 have hw0:(Z.map (·.2))[h]? = some z0.2:=by rw [List.getElem?_map,hz0];rfl
 refine E_seq ?_
 refine E_region' (L:=[0]) rfl ?_
 refine xas ?_
 refine EOps_nil ?_
 refine E_seq ?_
 refine E_seq ?_
 refine E_region' (L:=[0,1,2]) rfl ?_
 refine xmv ?_
 refine xmv ?_
 refine p_ rfl (L_bin rfl rfl rfl rfl) ?_
 refine EOps_nil ?_
 refine E_cond rfl (fun hc9=>?_) (fun hc9=>?_)
 ·have he : h = a := by simp at hc9; omega
  refine E_seq ?_
  refine E_region' (L:=[0]) rfl ?_
  refine xas ?_
  refine EOps_nil ?_
  refine E_ret ?_
  refine⟨_,[],rfl,rfl,?_,?_⟩
  ·rw [mvN,if_pos he];rfl
  rw [mvZ,if_pos he];rfl
 have he : ¬ h = a := by simp at hc9; omega
 have e1:=mvZ_1 he hz
 have e2:=mvZ_2 he hz
 refine E_skip ?_
 refine E_seq ?_
 refine E_drawB mixed ?_
 refine b_pure 0 rfl rfl rfl (L_move rfl) ?_
 refine b_pure 1 rfl rfl rfl (L_nilCheck rfl rfl rfl) ?_
 refine b_pure 2 rfl rfl rfl (l_field rfl fo_49_0) ?_
 refine b_load 3 rfl rfl rfl rfl rfl (d_bp ty_22) ?_
 refine b_pure 4 rfl rfl rfl (L_move rfl) ?_
 refine b_pure 5 rfl rfl rfl (L_move rfl) ?_
 refine b_pure 6 rfl rfl rfl (L_nilCheck rfl rfl rfl) ?_
 refine b_pure 7 rfl rfl rfl (l_field rfl fo_49_1) ?_
 refine b_load 8 rfl rfl rfl rfl rfl (d_bp ty_22) ?_
 refine b_pure 9 rfl rfl rfl (L_move rfl) ?_
 refine b_pure 10 rfl rfl rfl (L_move rfl) ?_
 refine b_pure 11 rfl rfl rfl (L_nilCheck rfl rfl rfl) ?_
 refine b_pure 12 rfl rfl rfl (l_field rfl fo_49_0) ?_
 refine b_load 13 rfl rfl rfl rfl rfl (d_bp ty_22) ?_
 refine b_pure 14 rfl rfl rfl (L_move rfl) ?_
 refine b_pure 15 rfl rfl rfl (L_index rfl rfl (xii sl_22 ty_3)) ?_
 refine b_pure 17 rfl rfl rfl (L_move rfl) ?_
 refine b_pure 18 rfl rfl rfl (L_nilCheck rfl rfl rfl) ?_
 refine b_pure 19 rfl rfl rfl (l_field rfl fo_49_1) ?_
 refine b_load 20 rfl rfl rfl rfl rfl (d_bp ty_22) ?_
 refine b_pure 21 rfl rfl rfl (L_move rfl) ?_
 refine b_pure 22 rfl rfl rfl (L_index rfl rfl (xii sl_22 ty_3)) ?_
 refine B_two 16 23 ?_ ?_
 ·refine b_see 16 rfl rfl rfl (L_load rfl (xb3 ty_3)) ?_
  refine B_one 23 ?_
  refine b_see 23 rfl rfl rfl (L_load rfl (xb0 ty_3)) ?_
  refine b_pure 24 rfl rfl rfl (L_index rfl rfl (xii sl_22 ty_3)) ?_
  refine B_one 25 ?_
  refine b_store 25 rfl rfl rfl rfl rfl rfl (s_ep ty_3) ?_
  refine b_pure 26 rfl rfl rfl (L_index rfl rfl (xii sl_22 ty_3)) ?_
  refine B_one 27 ?_
  refine b_store 27 rfl rfl rfl rfl rfl rfl (s_ep ty_3) ?_
  refine B_done (by kernel_rfl) ?_
  refine E_seq ?_
  refine E_region' (L:=[0]) rfl ?_
  refine xas ?_
  refine EOps_nil ?_
  refine E_ret ?_
  refine⟨_,[],rfl,rfl,?_,?_⟩
  ·rw [mvN,if_neg he];rfl
  rw [e1,e2,← ints_set,← ints_set];simp only [Int.toNat_natCast,Nat.zero_add];rfl
 refine b_see 23 rfl rfl rfl (L_load rfl (xb3 ty_3)) ?_
 refine B_one 16 ?_
 refine b_see 16 rfl rfl rfl (L_load rfl (xb0 ty_3)) ?_
 refine b_pure 24 rfl rfl rfl (L_index rfl rfl (xii sl_22 ty_3)) ?_
 refine B_one 25 ?_
 refine b_store 25 rfl rfl rfl rfl rfl rfl (s_ep ty_3) ?_
 refine b_pure 26 rfl rfl rfl (L_index rfl rfl (xii sl_22 ty_3)) ?_
 refine B_one 27 ?_
 refine b_store 27 rfl rfl rfl rfl rfl rfl (s_ep ty_3) ?_
 refine B_done (by kernel_rfl) ?_
 refine E_seq ?_
 refine E_region' (L:=[0]) rfl ?_
 refine xas ?_
 refine EOps_nil ?_
 refine E_ret ?_
 refine⟨_,[],rfl,rfl,?_,?_⟩
 ·rw [mvN,if_neg he];rfl
 rw [e1,e2,← ints_set,← ints_set];simp only [Int.toNat_natCast,Nat.zero_add];rfl

set_option maxRecDepth 20000 in
set_option maxHeartbeats 2000000 in
theorem c_spec_l10Move (Z P : List (Int × Int)) (h a n m : Nat) (hn : Z.length = n) (hm : P.length = m) (hh : h < n) (ha : a < n) : EFn Tryz.prog 204 [.c (.bp 0 0), .c (.sc (.int .i64 (a : Int))), .c (.sc (.int .i64 (h : Int)))] [.box [.sl 1 0 n n, .sl 2 0 n n, .sl 3 0 m m], .row 3 1 (ints (Z.map (·.1))), .row 3 1 (ints (Z.map (·.2))), .row 151 2 (pairs P)] (fun r S => r = .c (.sc (.int .i64 (mvN h a))) ∧ S = [.box [.sl 1 0 n n, .sl 2 0 n n, .sl 3 0 m m], .row 3 1 (ints ((mvZ Z h a).map (·.1))), .row 3 1 (ints ((mvZ Z h a).map (·.2))), .row 151 2 (pairs P)]) := by
 refine E_fn Tryz.func204 rfl (Nat.le_of_ble_eq_true rfl) ?_
 have hl1:(ints (Z.map (·.1))).length=n:=by rw [ints_len,List.length_map];exact hn
 have hl2:(ints (Z.map (·.2))).length=n:=by rw [ints_len,List.length_map];exact hn
 obtain⟨z,hz⟩:=at_lt (l:=Z) (k:=a) (by omega)
 have hv:(Z.map (·.1))[a]? = some z.1:=by rw [List.getElem?_map,hz];rfl
 have hw:(Z.map (·.2))[a]? = some z.2:=by rw [List.getElem?_map,hz];rfl
 obtain⟨z0,hz0⟩:=at_lt (l:=Z) (k:=h) (by omega)
 have hv0:(Z.map (·.1))[h]? = some z0.1:=by rw [List.getElem?_map,hz0];rfl
 have hw0:(Z.map (·.2))[h]? = some z0.2:=by rw [List.getElem?_map,hz0];rfl
 refine E_seq ?_
 refine E_region' (L:=[0]) rfl ?_
 refine xas ?_
 refine EOps_nil ?_
 refine E_seq ?_
 refine E_seq ?_
 refine E_region' (L:=[0,1,2]) rfl ?_
 refine xmv ?_
 refine xmv ?_
 refine p_ rfl (L_bin rfl rfl rfl rfl) ?_
 refine EOps_nil ?_
 refine E_cond rfl (fun hc9=>?_) (fun hc9=>?_)
 ·have he : h = a := by simp at hc9; omega
  refine E_seq ?_
  refine E_region' (L:=[0]) rfl ?_
  refine xas ?_
  refine EOps_nil ?_
  refine E_ret ?_
  refine⟨_,[],rfl,rfl,?_,?_⟩
  ·rw [mvN,if_pos he];rfl
  rw [mvZ,if_pos he];rfl
 have he : ¬ h = a := by simp at hc9; omega
 have e1:=mvZ_1 he hz
 have e2:=mvZ_2 he hz
 refine E_skip ?_
 refine E_seq ?_
 refine E_drawB mixed ?_
 refine b_pure 0 rfl rfl rfl (L_move rfl) ?_
 refine b_pure 1 rfl rfl rfl (L_nilCheck rfl rfl rfl) ?_
 refine b_pure 2 rfl rfl rfl (l_field rfl fo_49_0) ?_
 refine b_load 3 rfl rfl rfl rfl rfl (d_bp ty_22) ?_
 refine b_pure 4 rfl rfl rfl (L_move rfl) ?_
 refine b_pure 5 rfl rfl rfl (L_move rfl) ?_
 refine b_pure 6 rfl rfl rfl (L_nilCheck rfl rfl rfl) ?_
 refine b_pure 7 rfl rfl rfl (l_field rfl fo_49_0) ?_
 refine b_load 8 rfl rfl rfl rfl rfl (d_bp ty_22) ?_
 refine b_pure 9 rfl rfl rfl (L_move rfl) ?_
 refine b_pure 10 rfl rfl rfl (L_index rfl rfl (xii sl_22 ty_3)) ?_
 refine B_one 11 ?_
 refine b_see 11 rfl rfl rfl (L_load rfl (xb0 ty_3)) ?_
 refine b_pure 12 rfl rfl rfl (L_index rfl rfl (xii sl_22 ty_3)) ?_
 refine B_one 13 ?_
 refine b_store 13 rfl rfl rfl rfl rfl rfl (s_ep ty_3) ?_
 refine B_done (by kernel_rfl) ?_
 refine E_seq ?_
 refine E_drawB mixed ?_
 refine b_pure 0 rfl rfl rfl (L_move rfl) ?_
 refine b_pure 1 rfl rfl rfl (L_nilCheck rfl rfl rfl) ?_
 refine b_pure 2 rfl rfl rfl (l_field rfl fo_49_1) ?_
 refine b_load 3 rfl rfl rfl rfl rfl (d_bp ty_22) ?_
 refine b_pure 4 rfl rfl rfl (L_move rfl) ?_
 refine b_pure 5 rfl rfl rfl (L_move rfl) ?_
 refine b_pure 6 rfl rfl rfl (L_nilCheck rfl rfl rfl) ?_
 refine b_pure 7 rfl rfl rfl (l_field rfl fo_49_1) ?_
 refine b_load 8 rfl rfl rfl rfl rfl (d_bp ty_22) ?_
 refine b_pure 9 rfl rfl rfl (L_move rfl) ?_
 refine b_pure 10 rfl rfl rfl (L_index rfl rfl (xii sl_22 ty_3)) ?_
 refine B_one 11 ?_
 refine b_see 11 rfl rfl rfl (L_load rfl (xb0 ty_3)) ?_
 refine b_pure 12 rfl rfl rfl (L_index rfl rfl (xii sl_22 ty_3)) ?_
 refine B_one 13 ?_
 refine b_store 13 rfl rfl rfl rfl rfl rfl (s_ep ty_3) ?_
 refine B_done (by kernel_rfl) ?_
 refine E_seq ?_
 refine E_region' (L:=[0]) rfl ?_
 refine xas ?_
 refine EOps_nil ?_
 refine E_ret ?_
 refine⟨_,[],rfl,rfl,?_,?_⟩
 ·rw [mvN,if_neg he];rfl
 rw [e1,e2,← ints_set,← ints_set];simp only [Int.toNat_natCast,Nat.zero_add];rfl

end Go.Proofs.YtlodlnbhjghjoaaGreat.E
