/- Walks through functions, by program out of the session's annotations. -/
import Derived.Test.YtlodlnbhjghjoaaGreatA02
namespace Go.Proofs.YtlodlnbhjghjoaaGreat.E
open Go Go.RowKit Go.Proofs
set_option linter.unusedVariables false
set_option linter.unusedSimpArgs false

def minF (a : Int) (xs : List Int) : Int := xs.foldl (fun m v => if v < m then v else m) a
def maxF (a : Int) (xs : List Int) : Int := xs.foldl (fun m v => if m < v then v else m) a
def minL : List Int → Int
  | [] => 0
  | x :: t => minF x t
def maxL : List Int → Int
  | [] => 0
  | x :: t => maxF x t
theorem minL_snoc {l : List Int} (h : l ≠ []) (x : Int) : minL (l ++ [x]) = if x < minL l then x else minL l := by
  cases l with
  | nil => exact absurd rfl h
  | cons a t => rw [List.cons_append]; simp only [minL, minF, List.foldl_append]; rfl
theorem maxL_snoc {l : List Int} (h : l ≠ []) (x : Int) : maxL (l ++ [x]) = if maxL l < x then x else maxL l := by
  cases l with
  | nil => exact absurd rfl h
  | cons a t => rw [List.cons_append]; simp only [maxL, maxF, List.foldl_append]; rfl
theorem take_snoc {α : Type} {xs : List α} {k : Nat} {x : α} (hx : xs[k]? = some x) : xs.take (k + 1) = xs.take k ++ [x] := by
  rw [List.take_add_one, hx]; rfl
theorem sum_bound {l : List Int} (h : ∀ x ∈ l, -999 ≤ x ∧ x ≤ 999) : -(999 * (l.length : Int)) ≤ l.sum ∧ l.sum ≤ 999 * (l.length : Int) := by
  induction l with
  | nil => simp
  | cons a t ih =>
    have h1 := h a (List.mem_cons_self ..)
    have h2 := ih fun x hx => h x (List.mem_cons_of_mem _ hx)
    simp only [List.sum_cons, List.length_cons]
    constructor <;> omega
theorem areVals_parts {xs : List Int} (h : areVals xs = true) : xs.length ≤ 64 ∧ ∀ x ∈ xs, -999 ≤ x ∧ x ≤ 999 := by
  simpa [areVals] using h
/-- The numbers of an aggregate. -/
def aggN (xs : List Int) : Int × Int × Int × Int := ((xs.length : Int), xs.sum, minL xs, maxL xs)
def aggOf (xs : List Int) : Int × Int × Int × Int := if areVals xs = true then aggN xs else (0, 0, 0, 0)
def aggC (a : Int × Int × Int × Int) : List AC := [.sc (.int .i64 a.1), .sc (.int .i64 a.2.1), .sc (.int .i64 a.2.2.1), .sc (.int .i64 a.2.2.2)]

set_option maxRecDepth 20000 in
set_option maxHeartbeats 2000000 in
theorem c_impl_sum (xs : List Int) (h : xs.length ≤ 64 ∧ ∀ x ∈ xs, -999 ≤ x ∧ x ≤ 999) : EFn Tryz.prog 128 [.c (.ro (ints xs))] [] (fun r S => r = .c (.sc (.int .i64 xs.sum)) ∧ S = []) := by
  refine E_fn Tryz.func128 rfl (Nat.le_of_ble_eq_true rfl) ?_
  refine E_seq ?_
  refine E_region' (L := [0]) rfl ?_
  refine x_pure rfl rfl rfl (L_assign rfl) ?_
  refine EOps_nil ?_
  refine E_seq ?_
  refine E_region' (L := [0]) rfl ?_
  refine x_pure rfl rfl rfl (L_assign rfl) ?_
  refine EOps_nil ?_
  refine E_seq ?_
  refine E_seq ?_
  refine E_region' (L := [0, 1, 2]) rfl ?_
  refine x_pure rfl rfl rfl (L_move rfl) ?_
  refine x_pure rfl rfl rfl (l_len rfl sl_22) ?_
  refine x_pure rfl rfl rfl (L_move rfl) ?_
  refine EOps_nil ?_
  refine E_block ?_
  refine e_for (α := Nat) [0, 2, 6, 7] (fun k => [(8, .c (.sc (.int .i64 (k)))), (3, .c (.sc (.int .i64 ((xs.take k).sum)))), (5, .any)]) (fun _ => _) (fun k => k ≤ xs.length) (fun k => xs.length - k) (0) ?_ (rfl) ⟨.inr rfl, .inr rfl, .inl rfl, trivial⟩ ?_
  · simp
  rintro k hk
  refine E_seq ?_
  refine E_region' (L := [0]) rfl ?_
  refine x_pure rfl rfl rfl (L_bin rfl rfl rfl rfl) ?_
  refine EOps_nil ?_
  refine E_seq ?_
  refine E_cond rfl (fun hc9 => ?_) (fun hc9 => ?_)
  · have hc9' : k < (xs).length := by simpa [ints_len, bools_len, pairs_len, quads_len, quints_len] using hc9
    obtain ⟨x, hx⟩ : ∃ x, (xs)[k]? = some x := ⟨_, List.getElem?_eq_getElem hc9'⟩
    have hs := sum_bound (l := xs.take k) fun x hx => h.2 x (List.mem_of_mem_take hx)
    have hxx := h.2 x (List.mem_of_getElem? hx)
    rw [List.length_take, Nat.min_eq_left hk] at hs
    have hsn : (xs.take (k + 1)).sum = (xs.take k).sum + x := by rw [take_snoc hx]; simp
    refine E_skip ?_
    refine E_seq ?_
    refine E_block ?_
    refine E_seq ?_
    refine E_region' (L := [0, 1, 2]) rfl ?_
    refine x_pure rfl rfl rfl (L_index rfl rfl (by first | exact i_ro sl_22 ty_3 | exact i_sl sl_22 ty_3)) ?_
    refine x_light rfl rfl rfl (L_load rfl (by first | exact d_bp ty_3 | exact ld_rp ty_3 rfl | exact d_ep ty_3)) ?_
    refine x_pure rfl rfl rfl (L_assign rfl) ?_
    refine EOps_nil ?_
    refine E_region' (L := [0, 1, 2, 3]) rfl ?_
    refine x_pure rfl rfl rfl (L_move rfl) ?_
    refine x_pure rfl rfl rfl (L_move rfl) ?_
    refine x_pure rfl rfl rfl (by first | exact l_add rfl rfl rfl | exact L_bin rfl rfl rfl rfl) ?_
    refine x_pure rfl rfl rfl (L_assign rfl) ?_
    refine EOps_nil ?_
    refine E_region' (L := [0, 1]) rfl ?_
    refine x_pure rfl rfl rfl (by first | exact l_add rfl rfl rfl | exact L_bin rfl rfl rfl rfl) ?_
    refine x_pure rfl rfl rfl (L_move rfl) ?_
    refine EOps_nil ?_
    refine ⟨k + 1, ?_, ?_, rfl, ⟨.inr rfl, .inr (int_eq hsn.symm), .inl rfl, trivial⟩, ⟨.inr rfl, .inr rfl, .inr rfl, .inr rfl, trivial⟩⟩
    · first | omega | (dsimp only; omega) | (simp; omega)
    · first | trivial | omega | (dsimp only; omega) | (simp; omega)
  · have hk' : xs.length ≤ k := by simpa [ints_len] using hc9
    have he := List.take_of_length_le hk'
    refine E_exit ?_
    refine E_seq ?_
    refine E_region' (L := [0, 1]) rfl ?_
    refine x_pure rfl rfl rfl (L_move rfl) ?_
    refine x_pure rfl rfl rfl (L_assign rfl) ?_
    refine EOps_nil ?_
    refine E_ret ?_
    refine ⟨_, [], rfl, rfl, int_eq ?_, rfl⟩
    exact congrArg List.sum he

end Go.Proofs.YtlodlnbhjghjoaaGreat.E
