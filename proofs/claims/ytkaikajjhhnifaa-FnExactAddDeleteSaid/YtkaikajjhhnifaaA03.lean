/- Walks through functions, by program out of the session's annotations. -/
import Derived.Test.YtkaikajjhhnifaaA02
namespace Go.Proofs.Ytkaikajjhhnifaa.E
open Go Go.RowKit Go.Proofs
set_option linter.unusedVariables false
set_option linter.unusedSimpArgs false

def minF (a : Int) (xs : List Int) : Int := xs.foldl (fun m v => if v < m then v else m) a
def maxF (a : Int) (xs : List Int) : Int := xs.foldl (fun m v => if m < v then v else m) a
def minL : List Int → Int
  | [] => 0
  | x :: t => minF x t
def maxL : List Int → Int
  | [] => 0
  | x :: t => maxF x t
theorem minL_snoc {l : List Int} (h : l ≠ []) (x : Int) : minL (l ++ [x]) = if x < minL l then x else minL l := by
  cases l with
  | nil => exact absurd rfl h
  | cons a t => rw [List.cons_append]; simp only [minL, minF, List.foldl_append]; rfl
theorem maxL_snoc {l : List Int} (h : l ≠ []) (x : Int) : maxL (l ++ [x]) = if maxL l < x then x else maxL l := by
  cases l with
  | nil => exact absurd rfl h
  | cons a t => rw [List.cons_append]; simp only [maxL, maxF, List.foldl_append]; rfl
theorem take_snoc {α : Type} {xs : List α} {k : Nat} {x : α} (hx : xs[k]? = some x) : xs.take (k + 1) = xs.take k ++ [x] := by
  rw [List.take_add_one, hx]; rfl
theorem sum_bound {l : List Int} (h : ∀ x ∈ l, -999 ≤ x ∧ x ≤ 999) : -(999 * (l.length : Int)) ≤ l.sum ∧ l.sum ≤ 999 * (l.length : Int) := by
  induction l with
  | nil => simp
  | cons a t ih =>
    have h1 := h a (List.mem_cons_self ..)
    have h2 := ih fun x hx => h x (List.mem_cons_of_mem _ hx)
    simp only [List.sum_cons, List.length_cons]
    constructor <;> omega
theorem areVals_parts {xs : List Int} (h : areVals xs = true) : xs.length ≤ 64 ∧ ∀ x ∈ xs, -999 ≤ x ∧ x ≤ 999 := by
  simpa [areVals] using h
/-- The numbers of an aggregate. -/
def aggN (xs : List Int) : Int × Int × Int × Int := ((xs.length : Int), xs.sum, minL xs, maxL xs)
def aggOf (xs : List Int) : Int × Int × Int × Int := if areVals xs = true then aggN xs else (0, 0, 0, 0)
def aggC (a : Int × Int × Int × Int) : List AC := [.sc (.int .i64 a.1), .sc (.int .i64 a.2.1), .sc (.int .i64 a.2.2.1), .sc (.int .i64 a.2.2.2)]

set_option maxRecDepth 20000 in
set_option maxHeartbeats 2000000 in
theorem c_impl_sum (xs : List Int) (h : xs.length ≤ 64 ∧ ∀ x ∈ xs, -999 ≤ x ∧ x ≤ 999) : EFn Try.prog 156 [.c (.ro (ints xs))] [] (fun r S => r = .c (.sc (.int .i64 xs.sum)) ∧ S = []) := by
  refine E_fn Try.func156 rfl (Nat.le_of_ble_eq_true rfl) ?_
  refine E_seq ?_
  refine E_region' (L := [0]) rfl ?_
  refine x_pure rfl rfl rfl (L_assign rfl) ?_
  refine EOps_nil ?_
  refine E_seq ?_
  refine E_region' (L := [0]) rfl ?_
  refine x_pure rfl rfl rfl (L_assign rfl) ?_
  refine EOps_nil ?_
  refine E_seq ?_
  refine E_seq ?_
  refine E_region' (L := [0, 1, 2]) rfl ?_
  refine x_pure rfl rfl rfl (L_move rfl) ?_
  refine x_pure rfl rfl rfl (l_len rfl sl_22) ?_
  refine x_pure rfl rfl rfl (L_move rfl) ?_
  refine EOps_nil ?_
  refine E_block ?_
  refine e_for (α := Nat) [0, 2, 6, 7] (fun k => [(8, .c (.sc (.int .i64 (k)))), (3, .c (.sc (.int .i64 ((xs.take k).sum)))), (5, .any)]) (fun _ => _) (fun k => k ≤ xs.length) (fun k => xs.length - k) (0) ?_ (rfl) ⟨.inr rfl, .inr rfl, .inl rfl, trivial⟩ ?_
  · simp
  rintro k hk
  refine E_seq ?_
  refine E_region' (L := [0]) rfl ?_
  refine x_pure rfl rfl rfl (L_bin rfl rfl rfl rfl) ?_
  refine EOps_nil ?_
  refine E_seq ?_
  refine E_cond rfl (fun hc9 => ?_) (fun hc9 => ?_)
  · have hc9' : k < (xs).length := by simpa [ints_len, bools_len, pairs_len, quads_len, quints_len] using hc9
    obtain ⟨x, hx⟩ : ∃ x, (xs)[k]? = some x := ⟨_, List.getElem?_eq_getElem hc9'⟩
    have hs := sum_bound (l := xs.take k) fun x hx => h.2 x (List.mem_of_mem_take hx)
    have hxx := h.2 x (List.mem_of_getElem? hx)
    rw [List.length_take, Nat.min_eq_left hk] at hs
    have hsn : (xs.take (k + 1)).sum = (xs.take k).sum + x := by rw [take_snoc hx]; simp
    refine E_skip ?_
    refine E_seq ?_
    refine E_block ?_
    refine E_seq ?_
    refine E_region' (L := [0, 1, 2]) rfl ?_
    refine x_pure rfl rfl rfl (L_index rfl rfl (by first | exact i_ro sl_22 ty_3 | exact i_sl sl_22 ty_3)) ?_
    refine x_light rfl rfl rfl (L_load rfl (by first | exact d_bp ty_3 | exact ld_rp ty_3 rfl | exact d_ep ty_3)) ?_
    refine x_pure rfl rfl rfl (L_assign rfl) ?_
    refine EOps_nil ?_
    refine E_region' (L := [0, 1, 2, 3]) rfl ?_
    refine x_pure rfl rfl rfl (L_move rfl) ?_
    refine x_pure rfl rfl rfl (L_move rfl) ?_
    refine x_pure rfl rfl rfl (by first | exact l_add rfl rfl rfl | exact L_bin rfl rfl rfl rfl) ?_
    refine x_pure rfl rfl rfl (L_assign rfl) ?_
    refine EOps_nil ?_
    refine E_region' (L := [0, 1]) rfl ?_
    refine x_pure rfl rfl rfl (by first | exact l_add rfl rfl rfl | exact L_bin rfl rfl rfl rfl) ?_
    refine x_pure rfl rfl rfl (L_move rfl) ?_
    refine EOps_nil ?_
    refine ⟨k + 1, ?_, ?_, rfl, ⟨.inr rfl, .inr (int_eq hsn.symm), .inl rfl, trivial⟩, ⟨.inr rfl, .inr rfl, .inr rfl, .inr rfl, trivial⟩⟩
    · first | omega | (dsimp only; omega) | (simp; omega)
    · first | trivial | omega | (dsimp only; omega) | (simp; omega)
  · have hk' : xs.length ≤ k := by simpa [ints_len] using hc9
    have he := List.take_of_length_le hk'
    refine E_exit ?_
    refine E_seq ?_
    refine E_region' (L := [0, 1]) rfl ?_
    refine x_pure rfl rfl rfl (L_move rfl) ?_
    refine x_pure rfl rfl rfl (L_assign rfl) ?_
    refine EOps_nil ?_
    refine E_ret ?_
    refine ⟨_, [], rfl, rfl, int_eq ?_, rfl⟩
    exact congrArg List.sum he

set_option maxRecDepth 20000 in
set_option maxHeartbeats 2000000 in
theorem c_slices_Min___int_int_ (xs : List Int) (h : 0 < xs.length ∧ xs.length ≤ 1048576) : EFn Try.prog 157 [.c (.ro (ints xs))] [] (fun r S => r = .c (.sc (.int .i64 (minL xs))) ∧ S = []) := by
  refine E_fn Try.func157 rfl (Nat.le_of_ble_eq_true rfl) ?_
  obtain ⟨x0, hx0⟩ : ∃ x, xs[0]? = some x := ⟨_, List.getElem?_eq_getElem h.1⟩
  have hm0 : x0 = minL (xs.take 1) := by rw [take_snoc hx0]; rfl
  refine E_seq ?_
  refine E_region' (L := [0]) rfl ?_
  refine x_pure rfl rfl rfl (L_assign rfl) ?_
  refine EOps_nil ?_
  refine E_seq ?_
  refine E_seq ?_
  refine E_region' (L := [0, 1, 2]) rfl ?_
  refine x_pure rfl rfl rfl (L_move rfl) ?_
  refine x_pure rfl rfl rfl (l_len rfl sl_22) ?_
  refine x_pure rfl rfl rfl (L_bin rfl rfl rfl rfl) ?_
  refine EOps_nil ?_
  refine E_cond rfl (fun hc7 => ?_) (fun hc7 => ?_)
  · (exfalso; simp [ints_len] at hc7; omega)
  · refine E_skip ?_
    refine E_seq ?_
    refine E_region' (L := [0, 1, 2, 3]) rfl ?_
    refine x_pure rfl rfl rfl (L_move rfl) ?_
    refine x_pure rfl rfl rfl (L_index rfl rfl (by first | exact i_ro sl_22 ty_3 | exact i_sl sl_22 ty_3)) ?_
    refine x_light rfl rfl rfl (L_load rfl (by first | exact d_bp ty_3 | exact ld_rp ty_3 rfl | exact d_ep ty_3)) ?_
    refine x_pure rfl rfl rfl (L_assign rfl) ?_
    refine EOps_nil ?_
    refine E_seq ?_
    refine E_seq ?_
    refine E_region' (L := [0]) rfl ?_
    refine x_pure rfl rfl rfl (L_assign rfl) ?_
    refine EOps_nil ?_
    refine E_block ?_
    refine e_for (α := Nat) [0, 2, 7] (fun k => [(4, .c (.sc (.int .i64 (k)))), (3, .c (.sc (.int .i64 ((minL (xs.take k))))))]) (fun _ => _) (fun k => 1 ≤ k ∧ k ≤ xs.length) (fun k => xs.length - k) (1) ?_ (rfl) ⟨.inr rfl, .inr (int_eq hm0), trivial⟩ ?_
    · exact ⟨Nat.le_refl _, h.1⟩
    rintro k hk
    refine E_seq ?_
    refine E_seq ?_
    refine E_region' (L := [0, 1, 2, 3]) rfl ?_
    refine x_pure rfl rfl rfl (L_move rfl) ?_
    refine x_pure rfl rfl rfl (L_move rfl) ?_
    refine x_pure rfl rfl rfl (l_len rfl sl_22) ?_
    refine x_pure rfl rfl rfl (L_bin rfl rfl rfl rfl) ?_
    refine EOps_nil ?_
    refine E_cond rfl (fun hc15 => ?_) (fun hc15 => ?_)
    · have hc15' : k < (xs).length := by simpa [ints_len, bools_len, pairs_len, quads_len, quints_len] using hc15
      obtain ⟨x, hx⟩ : ∃ x, (xs)[k]? = some x := ⟨_, List.getElem?_eq_getElem hc15'⟩
      have hne : xs.take k ≠ [] := by intro e; rw [← List.length_eq_zero_iff, List.length_take] at e; omega
      have hsn := minL_snoc hne x
      rw [← take_snoc hx] at hsn
      refine E_skip ?_
      refine E_seq ?_
      refine E_block ?_
      refine E_region' (L := [0, 1, 2, 3, 4, 5, 6]) rfl ?_
      refine x_pure rfl rfl rfl (L_move rfl) ?_
      refine x_pure rfl rfl rfl (L_move rfl) ?_
      refine x_pure rfl rfl rfl (L_move rfl) ?_
      refine x_pure rfl rfl rfl (L_index rfl rfl (by first | exact i_ro sl_22 ty_3 | exact i_sl sl_22 ty_3)) ?_
      refine x_light rfl rfl rfl (L_load rfl (by first | exact d_bp ty_3 | exact ld_rp ty_3 rfl | exact d_ep ty_3)) ?_
      refine x_pure rfl rfl rfl (L_min rfl rfl rfl) ?_
      refine x_pure rfl rfl rfl (L_assign rfl) ?_
      refine EOps_nil ?_
      refine E_region' (L := [0, 1, 2]) rfl ?_
      refine x_pure rfl rfl rfl (L_move rfl) ?_
      refine x_pure rfl rfl rfl (by first | exact l_add rfl rfl rfl | exact L_bin rfl rfl rfl rfl) ?_
      refine x_pure rfl rfl rfl (L_assign rfl) ?_
      refine EOps_nil ?_
      refine ⟨k + 1, ?_, ?_, rfl, ⟨.inr rfl, .inr (int_eq hsn.symm), trivial⟩, ⟨.inr rfl, .inr rfl, .inr rfl, trivial⟩⟩
      · first | omega | (dsimp only; omega) | (simp; omega)
      · first | trivial | omega | (dsimp only; omega) | (simp; omega)
    · have hk' : xs.length ≤ k := by simpa [ints_len] using hc15
      have he := List.take_of_length_le hk'
      refine E_exit ?_
      refine E_seq ?_
      refine E_region' (L := [0, 1]) rfl ?_
      refine x_pure rfl rfl rfl (L_move rfl) ?_
      refine x_pure rfl rfl rfl (L_assign rfl) ?_
      refine EOps_nil ?_
      refine E_ret ?_
      refine ⟨_, [], rfl, rfl, int_eq ?_, rfl⟩
      exact congrArg minL he

set_option maxRecDepth 20000 in
set_option maxHeartbeats 2000000 in
theorem c_slices_Max___int_int_ (xs : List Int) (h : 0 < xs.length ∧ xs.length ≤ 1048576) : EFn Try.prog 158 [.c (.ro (ints xs))] [] (fun r S => r = .c (.sc (.int .i64 (maxL xs))) ∧ S = []) := by
  refine E_fn Try.func158 rfl (Nat.le_of_ble_eq_true rfl) ?_
  obtain ⟨x0, hx0⟩ : ∃ x, xs[0]? = some x := ⟨_, List.getElem?_eq_getElem h.1⟩
  have hm0 : x0 = maxL (xs.take 1) := by rw [take_snoc hx0]; rfl
  refine E_seq ?_
  refine E_region' (L := [0]) rfl ?_
  refine x_pure rfl rfl rfl (L_assign rfl) ?_
  refine EOps_nil ?_
  refine E_seq ?_
  refine E_seq ?_
  refine E_region' (L := [0, 1, 2]) rfl ?_
  refine x_pure rfl rfl rfl (L_move rfl) ?_
  refine x_pure rfl rfl rfl (l_len rfl sl_22) ?_
  refine x_pure rfl rfl rfl (L_bin rfl rfl rfl rfl) ?_
  refine EOps_nil ?_
  refine E_cond rfl (fun hc7 => ?_) (fun hc7 => ?_)
  · (exfalso; simp [ints_len] at hc7; omega)
  · refine E_skip ?_
    refine E_seq ?_
    refine E_region' (L := [0, 1, 2, 3]) rfl ?_
    refine x_pure rfl rfl rfl (L_move rfl) ?_
    refine x_pure rfl rfl rfl (L_index rfl rfl (by first | exact i_ro sl_22 ty_3 | exact i_sl sl_22 ty_3)) ?_
    refine x_light rfl rfl rfl (L_load rfl (by first | exact d_bp ty_3 | exact ld_rp ty_3 rfl | exact d_ep ty_3)) ?_
    refine x_pure rfl rfl rfl (L_assign rfl) ?_
    refine EOps_nil ?_
    refine E_seq ?_
    refine E_seq ?_
    refine E_region' (L := [0]) rfl ?_
    refine x_pure rfl rfl rfl (L_assign rfl) ?_
    refine EOps_nil ?_
    refine E_block ?_
    refine e_for (α := Nat) [0, 2, 7] (fun k => [(4, .c (.sc (.int .i64 (k)))), (3, .c (.sc (.int .i64 ((maxL (xs.take k))))))]) (fun _ => _) (fun k => 1 ≤ k ∧ k ≤ xs.length) (fun k => xs.length - k) (1) ?_ (rfl) ⟨.inr rfl, .inr (int_eq hm0), trivial⟩ ?_
    · exact ⟨Nat.le_refl _, h.1⟩
    rintro k hk
    refine E_seq ?_
    refine E_seq ?_
    refine E_region' (L := [0, 1, 2, 3]) rfl ?_
    refine x_pure rfl rfl rfl (L_move rfl) ?_
    refine x_pure rfl rfl rfl (L_move rfl) ?_
    refine x_pure rfl rfl rfl (l_len rfl sl_22) ?_
    refine x_pure rfl rfl rfl (L_bin rfl rfl rfl rfl) ?_
    refine EOps_nil ?_
    refine E_cond rfl (fun hc15 => ?_) (fun hc15 => ?_)
    · have hc15' : k < (xs).length := by simpa [ints_len, bools_len, pairs_len, quads_len, quints_len] using hc15
      obtain ⟨x, hx⟩ : ∃ x, (xs)[k]? = some x := ⟨_, List.getElem?_eq_getElem hc15'⟩
      have hne : xs.take k ≠ [] := by intro e; rw [← List.length_eq_zero_iff, List.length_take] at e; omega
      have hsn := maxL_snoc hne x
      rw [← take_snoc hx] at hsn
      refine E_skip ?_
      refine E_seq ?_
      refine E_block ?_
      refine E_region' (L := [0, 1, 2, 3, 4, 5, 6]) rfl ?_
      refine x_pure rfl rfl rfl (L_move rfl) ?_
      refine x_pure rfl rfl rfl (L_move rfl) ?_
      refine x_pure rfl rfl rfl (L_move rfl) ?_
      refine x_pure rfl rfl rfl (L_index rfl rfl (by first | exact i_ro sl_22 ty_3 | exact i_sl sl_22 ty_3)) ?_
      refine x_light rfl rfl rfl (L_load rfl (by first | exact d_bp ty_3 | exact ld_rp ty_3 rfl | exact d_ep ty_3)) ?_
      refine x_pure rfl rfl rfl (L_max rfl rfl rfl) ?_
      refine x_pure rfl rfl rfl (L_assign rfl) ?_
      refine EOps_nil ?_
      refine E_region' (L := [0, 1, 2]) rfl ?_
      refine x_pure rfl rfl rfl (L_move rfl) ?_
      refine x_pure rfl rfl rfl (by first | exact l_add rfl rfl rfl | exact L_bin rfl rfl rfl rfl) ?_
      refine x_pure rfl rfl rfl (L_assign rfl) ?_
      refine EOps_nil ?_
      refine ⟨k + 1, ?_, ?_, rfl, ⟨.inr rfl, .inr (int_eq hsn.symm), trivial⟩, ⟨.inr rfl, .inr rfl, .inr rfl, trivial⟩⟩
      · first | omega | (dsimp only; omega) | (simp; omega)
      · first | trivial | omega | (dsimp only; omega) | (simp; omega)
    · have hk' : xs.length ≤ k := by simpa [ints_len] using hc15
      have he := List.take_of_length_le hk'
      refine E_exit ?_
      refine E_seq ?_
      refine E_region' (L := [0, 1]) rfl ?_
      refine x_pure rfl rfl rfl (L_move rfl) ?_
      refine x_pure rfl rfl rfl (L_assign rfl) ?_
      refine EOps_nil ?_
      refine E_ret ?_
      refine ⟨_, [], rfl, rfl, int_eq ?_, rfl⟩
      exact congrArg maxL he

set_option maxRecDepth 20000 in
set_option maxHeartbeats 2000000 in
theorem c_impl_AggregateOf (xs : List Int) : EFn Try.prog 84 [.c (.ro (ints xs))] [] (fun r S => r = .agg (aggC (aggOf xs)) ∧ S = []) := by
  refine E_fn Try.func84 rfl (Nat.le_of_ble_eq_true rfl) ?_
  refine E_seq ?_
  refine E_region' (L := [0]) rfl ?_
  refine x_alloc rfl rfl rfl rfl za_106 ?_
  refine EOps_nil ?_
  refine E_seq ?_
  refine E_seq ?_
  refine E_region' (L := [0, 1, 2, 3, 4, 5, 6, 7]) rfl ?_
  refine x_pure rfl rfl rfl (L_move rfl) ?_
  refine x_pure rfl rfl rfl (l_len rfl sl_22) ?_
  refine x_pure rfl rfl rfl (L_bin rfl rfl rfl rfl) ?_
  refine x_pure rfl rfl rfl (L_move rfl) ?_
  refine EOps_split 6 (b := _) rfl (fun hg6 => ?_) (fun hg6 => ?_)
  · have hz : xs = [] := by simpa [ints_len] using hg6
    refine x_skip rfl rfl rfl ?_
    refine x_skip rfl rfl rfl ?_
    refine x_skip rfl rfl rfl ?_
    refine x_pure rfl rfl rfl (L_pick rfl rfl) ?_
    refine EOps_nil ?_
    refine E_cond rfl (fun hc10 => ?_) (fun hc10 => ?_)
    · refine E_seq ?_
      refine E_region' (L := [0, 1]) rfl ?_
      refine x_pure rfl rfl rfl (L_build rfl bd_106 rfl rfl) ?_
      refine EOps_go rfl rfl (EOp_store rfl rfl rfl (by first | exact s_bp ty_106 | exact s_ep ty_106) ?_)
      refine EOps_nil ?_
      refine E_ret ?_
      refine ⟨_, [], rfl, rfl, agg_eq ?_, rfl⟩
      subst hz; rfl
    · exact Bool.noConfusion (hc10 : true = false)
  · have hz : xs ≠ [] := by simpa [ints_len] using hg6
    refine x_pure rfl rfl rfl (L_move rfl) ?_
    refine x_call rfl rfl rfl rfl rfl ca_126 (c_impl_AreValues xs) ?_
    rintro r S ⟨rfl, rfl⟩
    refine x_pure rfl rfl rfl (L_not rfl rfl) ?_
    refine x_pure rfl rfl rfl (L_pick rfl rfl) ?_
    refine EOps_nil ?_
    refine E_cond rfl (fun hc10 => ?_) (fun hc10 => ?_)
    · refine E_seq ?_
      refine E_region' (L := [0, 1]) rfl ?_
      refine x_pure rfl rfl rfl (L_build rfl bd_106 rfl rfl) ?_
      refine EOps_go rfl rfl (EOp_store rfl rfl rfl (by first | exact s_bp ty_106 | exact s_ep ty_106) ?_)
      refine EOps_nil ?_
      refine E_ret ?_
      have hv : areVals xs = false := by simpa using hc10
      have he : aggOf xs = (0, 0, 0, 0) := by rw [aggOf, hv]; rfl
      refine ⟨_, [], rfl, rfl, agg_eq ?_, rfl⟩
      rw [he]; rfl
    · have hv : areVals xs = true := by simpa using hc10
      have hp := areVals_parts hv
      have hn : 0 < xs.length := List.length_pos_iff.2 hz
      have he : aggOf xs = ((xs.length : Int), xs.sum, minL xs, maxL xs) := by rw [aggOf, hv]; rfl
      refine E_skip ?_
      refine E_seq ?_
      refine E_region' (L := [0, 1, 2, 3, 4, 5, 6, 7, 8, 9]) rfl ?_
      refine x_pure rfl rfl rfl (L_move rfl) ?_
      refine x_pure rfl rfl rfl (l_len rfl sl_22) ?_
      refine x_pure rfl rfl rfl (L_move rfl) ?_
      refine x_call rfl rfl rfl rfl rfl ca_156 (c_impl_sum xs hp) ?_
      rintro r S ⟨rfl, rfl⟩
      refine x_pure rfl rfl rfl (L_move rfl) ?_
      refine x_call rfl rfl rfl rfl rfl ca_157 (c_slices_Min___int_int_ xs ⟨hn, by omega⟩) ?_
      rintro r S ⟨rfl, rfl⟩
      refine x_pure rfl rfl rfl (L_move rfl) ?_
      refine x_call rfl rfl rfl rfl rfl ca_158 (c_slices_Max___int_int_ xs ⟨hn, by omega⟩) ?_
      rintro r S ⟨rfl, rfl⟩
      refine x_pure rfl rfl rfl (L_build rfl bd_106 rfl rfl) ?_
      refine EOps_go rfl rfl (EOp_store rfl rfl rfl (by first | exact s_bp ty_106 | exact s_ep ty_106) ?_)
      refine EOps_nil ?_
      refine E_ret ?_
      refine ⟨_, [], rfl, rfl, agg_eq ?_, rfl⟩
      rw [he, ← ints_len xs]; rfl

set_option maxRecDepth 20000 in
set_option maxHeartbeats 2000000 in
theorem c_spec_AggregateOf (xs : List Int) : EFn Try.prog 81 [.c (.ro (ints xs))] [] (fun r S => r = .agg (aggC (aggOf xs)) ∧ S = []) := by
  refine E_fn Try.func81 rfl (Nat.le_of_ble_eq_true rfl) ?_
  refine E_seq ?_
  refine E_region' (L := [0]) rfl ?_
  refine x_alloc rfl rfl rfl rfl za_106 ?_
  refine EOps_nil ?_
  refine E_seq ?_
  refine E_region' (L := [0, 1, 2]) rfl ?_
  refine x_pure rfl rfl rfl (L_build rfl bd_106 rfl rfl) ?_
  refine x_alloc rfl rfl rfl rfl za_106 ?_
  refine EOps_go rfl rfl (EOp_store rfl rfl rfl (by first | exact s_bp ty_106 | exact s_ep ty_106) ?_)
  refine EOps_nil ?_
  refine E_seq ?_
  refine E_seq ?_
  refine E_region' (L := [0, 1, 2]) rfl ?_
  refine x_pure rfl rfl rfl (L_move rfl) ?_
  refine x_call rfl rfl rfl rfl rfl ca_134 (c_spec_AreValues xs) ?_
  rintro r S ⟨rfl, rfl⟩
  refine x_pure rfl rfl rfl (L_not rfl rfl) ?_
  refine EOps_nil ?_
  refine E_cond rfl (fun hc9 => ?_) (fun hc9 => ?_)
  · have hv : areVals xs = false := by simpa using hc9
    refine E_seq ?_
    refine E_region' (L := [0, 1]) rfl ?_
    refine x_light rfl rfl rfl (L_load rfl (by first | exact d_bp ty_106 | exact ld_rp ty_106 rfl | exact d_ep ty_106)) ?_
    refine EOps_go rfl rfl (EOp_store rfl rfl rfl (by first | exact s_bp ty_106 | exact s_ep ty_106) ?_)
    refine EOps_nil ?_
    refine E_ret ?_
    have he : aggOf xs = (0, 0, 0, 0) := by rw [aggOf, hv]; rfl
    refine ⟨_, [], rfl, rfl, agg_eq ?_, rfl⟩
    rw [he]; rfl
  · have hv : areVals xs = true := by simpa using hc9
    have hp := areVals_parts hv
    refine E_skip ?_
    refine E_seq ?_
    refine E_seq ?_
    refine E_region' (L := [0]) rfl ?_
    refine x_pure rfl rfl rfl (L_assign rfl) ?_
    refine EOps_nil ?_
    refine E_block ?_
    refine e_for (α := Nat) [0, 2, 3, 9] (fun k => [(4, .c (.sc (.int .i64 (k)))), (5, .any)]) (fun k => [.box [.sc (.int .i64 0), .sc (.int .i64 0), .sc (.int .i64 0), .sc (.int .i64 0)], .box (aggC (aggN (xs.take k)))]) (fun k => k ≤ xs.length) (fun k => xs.length - k) (0) ?_ (rfl) ⟨.inr rfl, .inl rfl, trivial⟩ ?_
    · simp
    rintro k hk
    refine E_seq ?_
    refine E_seq ?_
    refine E_region' (L := [0, 1, 2, 3]) rfl ?_
    refine x_pure rfl rfl rfl (L_move rfl) ?_
    refine x_pure rfl rfl rfl (L_move rfl) ?_
    refine x_pure rfl rfl rfl (l_len rfl sl_22) ?_
    refine x_pure rfl rfl rfl (L_bin rfl rfl rfl rfl) ?_
    refine EOps_nil ?_
    refine E_cond rfl (fun hc14 => ?_) (fun hc14 => ?_)
    · have hc14' : k < (xs).length := by simpa [ints_len, bools_len, pairs_len, quads_len, quints_len] using hc14
      obtain ⟨x, hx⟩ : ∃ x, (xs)[k]? = some x := ⟨_, List.getElem?_eq_getElem hc14'⟩
      have hs := sum_bound (l := xs.take k) fun x hx => hp.2 x (List.mem_of_mem_take hx)
      have hxx := hp.2 x (List.mem_of_getElem? hx)
      have hlk : (xs.take k).length = k := by rw [List.length_take, Nat.min_eq_left hk]
      rw [hlk] at hs
      have hsn : (xs.take (k + 1)).sum = (xs.take k).sum + x := by rw [take_snoc hx]; simp
      refine E_skip ?_
      refine E_seq ?_
      refine E_block ?_
      refine E_seq ?_
      refine E_region' (L := [0, 1, 2, 3, 4]) rfl ?_
      refine x_pure rfl rfl rfl (L_move rfl) ?_
      refine x_pure rfl rfl rfl (L_move rfl) ?_
      refine x_pure rfl rfl rfl (L_index rfl rfl (by first | exact i_ro sl_22 ty_3 | exact i_sl sl_22 ty_3)) ?_
      refine x_light rfl rfl rfl (L_load rfl (by first | exact d_bp ty_3 | exact ld_rp ty_3 rfl | exact d_ep ty_3)) ?_
      refine x_pure rfl rfl rfl (L_assign rfl) ?_
      refine EOps_nil ?_
      refine e_seqJ (α := Unit) [0, 2, 3, 4, 5, 9, 14] (fun _ => []) (fun _ => [.box [.sc (.int .i64 0), .sc (.int .i64 0), .sc (.int .i64 0), .sc (.int .i64 0)], .box (aggC ((xs.take k).length, (xs.take k).sum, if k = 0 then x else minL (xs.take k), if k = 0 then x else maxL (xs.take k)))]) (fun _ => True) ?_ ?_
      · refine E_seq ?_
        refine E_region' (L := [0, 1, 2]) rfl ?_
        refine x_pure rfl rfl rfl (l_field rfl fo_106_0) ?_
        refine x_light rfl rfl rfl (L_load rfl (by first | exact d_bp ty_3 | exact ld_rp ty_3 rfl | exact d_ep ty_3)) ?_
        refine x_pure rfl rfl rfl (L_bin rfl rfl rfl rfl) ?_
        refine EOps_nil ?_
        refine E_cond rfl (fun hc23 => ?_) (fun hc23 => ?_)
        · have hk0 : k = 0 := by simpa [hlk, aggN] using hc23
          refine E_seq ?_
          refine E_region' (L := [0, 1, 2]) rfl ?_
          refine x_pure rfl rfl rfl (L_move rfl) ?_
          refine x_pure rfl rfl rfl (l_field rfl fo_106_2) ?_
          refine EOps_go rfl rfl (EOp_store rfl rfl rfl (by first | exact s_bp ty_3 | exact s_ep ty_3) ?_)
          refine EOps_nil ?_
          refine E_region' (L := [0, 1, 2]) rfl ?_
          refine x_pure rfl rfl rfl (L_move rfl) ?_
          refine x_pure rfl rfl rfl (l_field rfl fo_106_3) ?_
          refine EOps_go rfl rfl (EOp_store rfl rfl rfl (by first | exact s_bp ty_3 | exact s_ep ty_3) ?_)
          refine EOps_nil ?_
          skip
          refine ⟨(), ?_, by simp [hk0, aggC, aggN, splice, tc], trivial, ⟨.inr rfl, .inr rfl, .inr rfl, .inr rfl, .inr rfl, .inr rfl, .inr rfl, trivial⟩⟩
          trivial
        · have hk0 : k ≠ 0 := by simpa [hlk, aggN] using hc23
          refine E_skip ?_
          skip
          refine ⟨(), ?_, by simp [hk0, aggC, aggN, splice, tc], trivial, ⟨.inr rfl, .inr rfl, .inr rfl, .inr rfl, .inr rfl, .inr rfl, .inr rfl, trivial⟩⟩
          trivial
      rintro _ hI
      refine E_seq ?_
      refine E_region' (L := [0, 1, 2, 3, 4]) rfl ?_
      refine x_pure rfl rfl rfl (l_field rfl fo_106_0) ?_
      refine x_light rfl rfl rfl (L_load rfl (by first | exact d_bp ty_3 | exact ld_rp ty_3 rfl | exact d_ep ty_3)) ?_
      refine x_pure rfl rfl rfl (by first | exact l_add rfl rfl rfl | exact L_bin rfl rfl rfl rfl) ?_
      refine x_pure rfl rfl rfl (l_field rfl fo_106_0) ?_
      refine EOps_go rfl rfl (EOp_store rfl rfl rfl (by first | exact s_bp ty_3 | exact s_ep ty_3) ?_)
      refine EOps_nil ?_
      refine E_seq ?_
      refine E_region' (L := [0, 1, 2, 3, 4, 5]) rfl ?_
      refine x_pure rfl rfl rfl (l_field rfl fo_106_1) ?_
      refine x_light rfl rfl rfl (L_load rfl (by first | exact d_bp ty_3 | exact ld_rp ty_3 rfl | exact d_ep ty_3)) ?_
      refine x_pure rfl rfl rfl (L_move rfl) ?_
      refine x_pure rfl rfl rfl (by first | exact l_add rfl rfl rfl | exact L_bin rfl rfl rfl rfl) ?_
      refine x_pure rfl rfl rfl (l_field rfl fo_106_1) ?_
      refine EOps_go rfl rfl (EOp_store rfl rfl rfl (by first | exact s_bp ty_3 | exact s_ep ty_3) ?_)
      refine EOps_nil ?_
      refine E_seq ?_
      refine E_region' (L := [0, 1, 2, 3, 4, 5]) rfl ?_
      refine x_pure rfl rfl rfl (l_field rfl fo_106_2) ?_
      refine x_light rfl rfl rfl (L_load rfl (by first | exact d_bp ty_3 | exact ld_rp ty_3 rfl | exact d_ep ty_3)) ?_
      refine x_pure rfl rfl rfl (L_move rfl) ?_
      refine x_pure rfl rfl rfl (L_min rfl rfl rfl) ?_
      refine x_pure rfl rfl rfl (l_field rfl fo_106_2) ?_
      refine EOps_go rfl rfl (EOp_store rfl rfl rfl (by first | exact s_bp ty_3 | exact s_ep ty_3) ?_)
      refine EOps_nil ?_
      refine E_region' (L := [0, 1, 2, 3, 4, 5]) rfl ?_
      refine x_pure rfl rfl rfl (l_field rfl fo_106_3) ?_
      refine x_light rfl rfl rfl (L_load rfl (by first | exact d_bp ty_3 | exact ld_rp ty_3 rfl | exact d_ep ty_3)) ?_
      refine x_pure rfl rfl rfl (L_move rfl) ?_
      refine x_pure rfl rfl rfl (L_max rfl rfl rfl) ?_
      refine x_pure rfl rfl rfl (l_field rfl fo_106_3) ?_
      refine EOps_go rfl rfl (EOp_store rfl rfl rfl (by first | exact s_bp ty_3 | exact s_ep ty_3) ?_)
      refine EOps_nil ?_
      refine E_region' (L := [0, 1, 2]) rfl ?_
      refine x_pure rfl rfl rfl (L_move rfl) ?_
      refine x_pure rfl rfl rfl (by first | exact l_add rfl rfl rfl | exact L_bin rfl rfl rfl rfl) ?_
      refine x_pure rfl rfl rfl (L_assign rfl) ?_
      refine EOps_nil ?_
      refine ⟨k + 1, ?_, ?_, by
  have h1 : minL (xs.take (k + 1)) = (if x < (if k = 0 then x else minL (xs.take k)) then x else (if k = 0 then x else minL (xs.take k))) := by
    by_cases h0 : k = 0
    · subst h0; rw [take_snoc hx]; simp [minL, minF]
    · rw [if_neg h0, take_snoc hx, minL_snoc (by intro e; rw [← List.length_eq_zero_iff] at e; omega)]
  have h2 : maxL (xs.take (k + 1)) = (if (if k = 0 then x else maxL (xs.take k)) < x then x else (if k = 0 then x else maxL (xs.take k))) := by
    by_cases h0 : k = 0
    · subst h0; rw [take_snoc hx]; simp [maxL, maxF]
    · rw [if_neg h0, take_snoc hx, maxL_snoc (by intro e; rw [← List.length_eq_zero_iff] at e; omega)]
  have h3 : ((xs.take (k + 1)).length : Int) = (xs.take k).length + 1 := by rw [take_snoc hx]; simp
  simp only [aggN, h1, h2, h3, hsn]; rfl, ⟨.inr rfl, .inl rfl, trivial⟩, ⟨.inr rfl, .inr rfl, .inr rfl, .inr rfl, trivial⟩⟩
      · first | omega | (dsimp only; omega) | (simp; omega)
      · first | trivial | omega | (dsimp only; omega) | (simp; omega)
    · have hk' : xs.length ≤ k := by simpa [ints_len] using hc14
      have he := List.take_of_length_le hk'
      refine E_exit ?_
      refine E_seq ?_
      refine E_region' (L := [0, 1]) rfl ?_
      refine x_light rfl rfl rfl (L_load rfl (by first | exact d_bp ty_106 | exact ld_rp ty_106 rfl | exact d_ep ty_106)) ?_
      refine EOps_go rfl rfl (EOp_store rfl rfl rfl (by first | exact s_bp ty_106 | exact s_ep ty_106) ?_)
      refine EOps_nil ?_
      refine E_ret ?_
      have h2 : aggOf xs = aggN (xs.take k) := by rw [he, aggOf, hv]; rfl
      refine ⟨_, [], rfl, rfl, agg_eq ?_, rfl⟩
      rw [h2]; rfl

set_option maxRecDepth 20000 in
set_option maxHeartbeats 2000000 in
theorem c_laws_eqAggregate (a b : Int × Int × Int × Int) : EFn Try.prog 85 [.agg (aggC a), .agg (aggC b)] [] (fun r S => r = .c (.sc (.bool (decide (a = b)))) ∧ S = []) := by
  refine E_fn Try.func85 rfl (Nat.le_of_ble_eq_true rfl) ?_
  obtain ⟨a1, a2, a3, a4⟩ := a
  obtain ⟨b1, b2, b3, b4⟩ := b
  refine E_seq ?_
  refine E_region' (L := [0, 1, 2]) rfl ?_
  refine x_box rfl rfl rfl rfl rfl ?_
  refine x_box rfl rfl rfl rfl rfl ?_
  refine x_pure rfl rfl rfl (L_assign rfl) ?_
  refine EOps_nil ?_
  refine E_seq ?_
  refine E_seq ?_
  refine E_region' (L := [0, 1, 2, 3, 4]) rfl ?_
  refine x_pure rfl rfl rfl (l_field rfl fo_106_0) ?_
  refine x_light rfl rfl rfl (L_load rfl (by first | exact d_bp ty_3 | exact ld_rp ty_3 rfl | exact d_ep ty_3)) ?_
  refine x_pure rfl rfl rfl (l_field rfl fo_106_0) ?_
  refine x_light rfl rfl rfl (L_load rfl (by first | exact d_bp ty_3 | exact ld_rp ty_3 rfl | exact d_ep ty_3)) ?_
  refine x_pure rfl rfl rfl (L_bin rfl rfl rfl rfl) ?_
  refine EOps_nil ?_
  refine E_cond rfl (fun hc9 => ?_) (fun hc9 => ?_)
  · refine E_seq ?_
    refine E_region' (L := [0]) rfl ?_
    refine x_pure rfl rfl rfl (L_assign rfl) ?_
    refine EOps_nil ?_
    refine E_ret ?_
    refine ⟨_, [], rfl, rfl, bool_eq ?_, rfl⟩
    simp_all
  · refine E_skip ?_
    refine E_seq ?_
    refine E_seq ?_
    refine E_region' (L := [0, 1, 2, 3, 4]) rfl ?_
    refine x_pure rfl rfl rfl (l_field rfl fo_106_1) ?_
    refine x_light rfl rfl rfl (L_load rfl (by first | exact d_bp ty_3 | exact ld_rp ty_3 rfl | exact d_ep ty_3)) ?_
    refine x_pure rfl rfl rfl (l_field rfl fo_106_1) ?_
    refine x_light rfl rfl rfl (L_load rfl (by first | exact d_bp ty_3 | exact ld_rp ty_3 rfl | exact d_ep ty_3)) ?_
    refine x_pure rfl rfl rfl (L_bin rfl rfl rfl rfl) ?_
    refine EOps_nil ?_
    refine E_cond rfl (fun hc14 => ?_) (fun hc14 => ?_)
    · refine E_seq ?_
      refine E_region' (L := [0]) rfl ?_
      refine x_pure rfl rfl rfl (L_assign rfl) ?_
      refine EOps_nil ?_
      refine E_ret ?_
      refine ⟨_, [], rfl, rfl, bool_eq ?_, rfl⟩
      simp_all
    · refine E_skip ?_
      refine E_seq ?_
      refine E_seq ?_
      refine E_region' (L := [0, 1, 2, 3, 4]) rfl ?_
      refine x_pure rfl rfl rfl (l_field rfl fo_106_2) ?_
      refine x_light rfl rfl rfl (L_load rfl (by first | exact d_bp ty_3 | exact ld_rp ty_3 rfl | exact d_ep ty_3)) ?_
      refine x_pure rfl rfl rfl (l_field rfl fo_106_2) ?_
      refine x_light rfl rfl rfl (L_load rfl (by first | exact d_bp ty_3 | exact ld_rp ty_3 rfl | exact d_ep ty_3)) ?_
      refine x_pure rfl rfl rfl (L_bin rfl rfl rfl rfl) ?_
      refine EOps_nil ?_
      refine E_cond rfl (fun hc19 => ?_) (fun hc19 => ?_)
      · refine E_seq ?_
        refine E_region' (L := [0]) rfl ?_
        refine x_pure rfl rfl rfl (L_assign rfl) ?_
        refine EOps_nil ?_
        refine E_ret ?_
        refine ⟨_, [], rfl, rfl, bool_eq ?_, rfl⟩
        simp_all
      · refine E_skip ?_
        refine E_seq ?_
        refine E_seq ?_
        refine E_region' (L := [0, 1, 2, 3, 4]) rfl ?_
        refine x_pure rfl rfl rfl (l_field rfl fo_106_3) ?_
        refine x_light rfl rfl rfl (L_load rfl (by first | exact d_bp ty_3 | exact ld_rp ty_3 rfl | exact d_ep ty_3)) ?_
        refine x_pure rfl rfl rfl (l_field rfl fo_106_3) ?_
        refine x_light rfl rfl rfl (L_load rfl (by first | exact d_bp ty_3 | exact ld_rp ty_3 rfl | exact d_ep ty_3)) ?_
        refine x_pure rfl rfl rfl (L_bin rfl rfl rfl rfl) ?_
        refine EOps_nil ?_
        refine E_cond rfl (fun hc24 => ?_) (fun hc24 => ?_)
        · refine E_seq ?_
          refine E_region' (L := [0]) rfl ?_
          refine x_pure rfl rfl rfl (L_assign rfl) ?_
          refine EOps_nil ?_
          refine E_ret ?_
          refine ⟨_, [], rfl, rfl, bool_eq ?_, rfl⟩
          simp_all
        · refine E_skip ?_
          refine E_seq ?_
          refine E_region' (L := [0]) rfl ?_
          refine x_pure rfl rfl rfl (L_assign rfl) ?_
          refine EOps_nil ?_
          refine E_ret ?_
          refine ⟨_, [], rfl, rfl, bool_eq ?_, rfl⟩
          simp_all

end Go.Proofs.Ytkaikajjhhnifaa.E
