/- Walks through functions, by program out of the session's annotations. -/
import Derived.Test.YtpcnpmeimemeaaaA05
namespace Go.Proofs.Ytpcnpmeimemeaaa.E
open Go Go.RowKit Go.Proofs
set_option linter.unusedVariables false
set_option linter.unusedSimpArgs false

set_option maxRecDepth 20000 in
set_option maxHeartbeats 2000000 in
theorem c_spec_l4Ints (xs ys : List (Int)) : EFn Try.prog 62 [.c (.ro (ints xs)), .c (.ro (ints ys))] [] (fun r S => r = .c (.sc (.bool (decide (xs = ys)))) ∧ S = []) := by
  refine E_fn Try.func62 rfl (Nat.le_of_ble_eq_true rfl) ?_
  refine E_bound (t := 0) (rows := ints xs) rfl fun hb => ?_
  rw [ints_len] at hb
  refine E_seq ?_
  refine E_region' (L := [0]) rfl ?_
  refine EOps_go rfl rfl (EOp_light rfl (by decide) (Pure.light (L_assign rfl)) ?_)
  refine EOps_nil ?_
  refine E_seq ?_
  refine E_seq ?_
  refine E_region' (L := [0, 1, 2, 3, 4]) rfl ?_
  refine EOps_go rfl rfl (EOp_light rfl (by decide) (Pure.light (L_move rfl)) ?_)
  refine EOps_go rfl rfl (EOp_light rfl (by decide) (Pure.light (L_len rfl sl_35 rfl (by first | rfl | exact slOk_of (by first | rfl | assumption) (by first | assumption | exact ints_len _ | exact pairs_len _ | exact bools_len _ | (simp [ints_len, bools_len, pairs_len, part_len, *]; done) | (simp [ints_len, bools_len, pairs_len]; omega) | rfl)))) ?_)
  refine EOps_go rfl rfl (EOp_light rfl (by decide) (Pure.light (L_move rfl)) ?_)
  refine EOps_go rfl rfl (EOp_light rfl (by decide) (Pure.light (L_len rfl sl_35 rfl (by first | rfl | exact slOk_of (by first | rfl | assumption) (by first | assumption | exact ints_len _ | exact pairs_len _ | exact bools_len _ | (simp [ints_len, bools_len, pairs_len, part_len, *]; done) | (simp [ints_len, bools_len, pairs_len]; omega) | rfl)))) ?_)
  refine EOps_go rfl rfl (EOp_light rfl (by decide) (Pure.light (L_bin rfl rfl rfl rfl)) ?_)
  refine EOps_nil ?_
  refine E_cond rfl (fun hc10 => ?_) (fun hc10 => ?_)
  · have hne : xs ≠ ys := fun e => by subst e; simp at hc10
    refine E_seq ?_
    refine E_region' (L := [0]) rfl ?_
    refine EOps_go rfl rfl (EOp_light rfl (by decide) (Pure.light (L_assign rfl)) ?_)
    refine EOps_nil ?_
    refine E_ret ?_
    refine ⟨_, [], rfl, rfl, ?_, rfl⟩
    simp [AV.ren, ren_sc, ren_ro, AC.ren, AC.ren.rens, ix, rv1, E.get, E.ev, E.cv, E.fill', E.fill, E.slotsOf, hne]
  · have hlen : xs.length = ys.length := by simp [ints_len] at hc10; omega
    refine E_skip ?_
    refine E_seq ?_
    refine E_seq ?_
    refine E_region' (L := [0]) rfl ?_
    refine EOps_go rfl rfl (EOp_light rfl (by decide) (Pure.light (L_assign rfl)) ?_)
    refine EOps_nil ?_
    refine E_block ?_
    refine E_for (α := Nat) [0, 1, 10] (fun k => [(5, .c (.sc (.int .i64 (k))))]) (fun _ => _) (fun k => k ≤ xs.length ∧ xs.take k = ys.take k) (fun k => xs.length - k) (0) (by simp only [E.keepOf, E.get, E.ev, E.cv, E.fill', E.fill, E.slotsOf, Res.sh, AC.sh, AC.sh.shs, AV.sh, E.splice, List.map_cons, List.map_nil, List.cons_append, List.nil_append, List.append_nil, List.length_cons, List.length_nil, List.take_zero, List.drop_zero, List.take_succ_cons, List.drop_succ_cons, List.drop_nil, List.take_nil, List.set_cons_zero, List.set_cons_succ, Nat.zero_add, Nat.add_zero, Nat.reduceAdd, Nat.reduceSub, reduceIte, Nat.reduceEqDiff, E.back, E.backR, E.ix, Res.un, AC.un, AC.un.uns, AV.un, E.un, Option.map_some, Option.map_none, Option.getD_some, List.getElem?_cons_zero, List.getElem?_cons_succ, List.getElem?_nil]; rfl) ?_ (rfl) ⟨.inr rfl, trivial⟩ ?_
    · simp
    rintro k ⟨hk, htk⟩
    refine E_seq ?_
    refine E_seq ?_
    refine E_region' (L := [0, 1, 2, 3]) rfl ?_
    refine EOps_go rfl rfl (EOp_light rfl (by decide) (Pure.light (L_move rfl)) ?_)
    refine EOps_go rfl rfl (EOp_light rfl (by decide) (Pure.light (L_move rfl)) ?_)
    refine EOps_go rfl rfl (EOp_light rfl (by decide) (Pure.light (L_len rfl sl_35 rfl (by first | rfl | exact slOk_of (by first | rfl | assumption) (by first | assumption | exact ints_len _ | exact pairs_len _ | exact bools_len _ | (simp [ints_len, bools_len, pairs_len, part_len, *]; done) | (simp [ints_len, bools_len, pairs_len]; omega) | rfl)))) ?_)
    refine EOps_go rfl rfl (EOp_light rfl (by decide) (Pure.light (L_bin rfl rfl rfl rfl)) ?_)
    refine EOps_nil ?_
    refine E_cond rfl (fun hc14 => ?_) (fun hc14 => ?_)
    · have hc14' : k < (xs).length := by simpa [ints_len, bools_len, pairs_len] using hc14
      obtain ⟨x, hx⟩ : ∃ x, (xs)[k]? = some x := ⟨_, List.getElem?_eq_getElem hc14'⟩
      obtain ⟨y, hy⟩ : ∃ y, ys[k]? = some y := ⟨_, List.getElem?_eq_getElem (hlen ▸ hc14')⟩
      refine E_skip ?_
      refine E_seq ?_
      refine E_block ?_
      refine E_seq ?_
      refine E_drawT mixed ?_
      refine T_light (i := 0) rfl rfl (by kernel_rfl) (by kernel_rfl) (by kernel_rfl) rfl (by decide) (Pure.light (L_move rfl)) rfl ?_
      refine T_light (i := 1) rfl rfl (by kernel_rfl) (by kernel_rfl) (by kernel_rfl) rfl (by decide) (Pure.light (L_move rfl)) rfl ?_
      refine T_light (i := 2) rfl rfl (by kernel_rfl) (by kernel_rfl) (by kernel_rfl) rfl (by decide) (Pure.light (L_index rfl rfl (by first | exact iav_ro sl_35 ty_3 (by omega) (by first | (first | assumption | exact ints_at (by assumption) | exact bools_at (by assumption) | exact pairs_at (by assumption) | exact ints_at (part_at (by assumption)) | exact bools_at (part_at (by assumption)) | exact pairs_at (part_at (by assumption)) | exact List.getElem?_set_self (by omega) | rfl) | ((try simp only [Int.toNat_natCast, Nat.zero_add]); first | assumption | exact ints_at (by assumption) | exact bools_at (by assumption) | exact pairs_at (by assumption) | exact ints_at (part_at (by assumption)) | exact bools_at (part_at (by assumption)) | exact pairs_at (part_at (by assumption)) | exact List.getElem?_set_self (by omega) | rfl)) rfl | exact iav_sl sl_35 ty_3 (by omega) (by first | rfl | assumption) (by first | assumption | exact ints_len _ | exact pairs_len _ | exact bools_len _ | (simp [ints_len, bools_len, pairs_len, part_len, *]; done) | (simp [ints_len, bools_len, pairs_len]; omega) | rfl) (by first | omega | (simp [ints_len, bools_len, pairs_len]; omega))))) rfl ?_
      refine T_light (i := 3) rfl rfl (by kernel_rfl) (by kernel_rfl) (by kernel_rfl) rfl (by decide) (L_load rfl (by first | exact ld_bp (by first | rfl | assumption) ty_3 rfl | exact ld_rp ty_3 rfl | exact ld_ep (by first | rfl | assumption) (by first | assumption | exact ints_len _ | exact pairs_len _ | exact bools_len _ | (simp [ints_len, bools_len, pairs_len, part_len, *]; done) | (simp [ints_len, bools_len, pairs_len]; omega) | rfl) (by first | (first | assumption | exact ints_at (by assumption) | exact bools_at (by assumption) | exact pairs_at (by assumption) | exact ints_at (part_at (by assumption)) | exact bools_at (part_at (by assumption)) | exact pairs_at (part_at (by assumption)) | exact List.getElem?_set_self (by omega) | rfl) | ((try simp only [Int.toNat_natCast, Nat.zero_add]); first | assumption | exact ints_at (by assumption) | exact bools_at (by assumption) | exact pairs_at (by assumption) | exact ints_at (part_at (by assumption)) | exact bools_at (part_at (by assumption)) | exact pairs_at (part_at (by assumption)) | exact List.getElem?_set_self (by omega) | rfl)) ty_3 rfl)) rfl ?_
      refine T_light (i := 4) rfl rfl (by kernel_rfl) (by kernel_rfl) (by kernel_rfl) rfl (by decide) (Pure.light (L_move rfl)) rfl ?_
      refine T_light (i := 5) rfl rfl (by kernel_rfl) (by kernel_rfl) (by kernel_rfl) rfl (by decide) (Pure.light (L_move rfl)) rfl ?_
      refine T_light (i := 6) rfl rfl (by kernel_rfl) (by kernel_rfl) (by kernel_rfl) rfl (by decide) (Pure.light (L_index rfl rfl (by first | exact iav_ro sl_35 ty_3 (by omega) (by first | (first | assumption | exact ints_at (by assumption) | exact bools_at (by assumption) | exact pairs_at (by assumption) | exact ints_at (part_at (by assumption)) | exact bools_at (part_at (by assumption)) | exact pairs_at (part_at (by assumption)) | exact List.getElem?_set_self (by omega) | rfl) | ((try simp only [Int.toNat_natCast, Nat.zero_add]); first | assumption | exact ints_at (by assumption) | exact bools_at (by assumption) | exact pairs_at (by assumption) | exact ints_at (part_at (by assumption)) | exact bools_at (part_at (by assumption)) | exact pairs_at (part_at (by assumption)) | exact List.getElem?_set_self (by omega) | rfl)) rfl | exact iav_sl sl_35 ty_3 (by omega) (by first | rfl | assumption) (by first | assumption | exact ints_len _ | exact pairs_len _ | exact bools_len _ | (simp [ints_len, bools_len, pairs_len, part_len, *]; done) | (simp [ints_len, bools_len, pairs_len]; omega) | rfl) (by first | omega | (simp [ints_len, bools_len, pairs_len]; omega))))) rfl ?_
      refine T_light (i := 7) rfl rfl (by kernel_rfl) (by kernel_rfl) (by kernel_rfl) rfl (by decide) (L_load rfl (by first | exact ld_bp (by first | rfl | assumption) ty_3 rfl | exact ld_rp ty_3 rfl | exact ld_ep (by first | rfl | assumption) (by first | assumption | exact ints_len _ | exact pairs_len _ | exact bools_len _ | (simp [ints_len, bools_len, pairs_len, part_len, *]; done) | (simp [ints_len, bools_len, pairs_len]; omega) | rfl) (by first | (first | assumption | exact ints_at (by assumption) | exact bools_at (by assumption) | exact pairs_at (by assumption) | exact ints_at (part_at (by assumption)) | exact bools_at (part_at (by assumption)) | exact pairs_at (part_at (by assumption)) | exact List.getElem?_set_self (by omega) | rfl) | ((try simp only [Int.toNat_natCast, Nat.zero_add]); first | assumption | exact ints_at (by assumption) | exact bools_at (by assumption) | exact pairs_at (by assumption) | exact ints_at (part_at (by assumption)) | exact bools_at (part_at (by assumption)) | exact pairs_at (part_at (by assumption)) | exact List.getElem?_set_self (by omega) | rfl)) ty_3 rfl)) rfl ?_
      refine T_light (i := 8) rfl rfl (by kernel_rfl) (by kernel_rfl) (by kernel_rfl) rfl (by decide) (Pure.light (L_bin rfl rfl rfl rfl)) rfl ?_
      refine T_done (by kernel_rfl) ?_
      refine E_cond rfl (fun hc25 => ?_) (fun hc25 => ?_)
      · have hne : xs ≠ ys := fun e => by subst e; rw [hx] at hy; cases hy; simp at hc25
        refine E_seq ?_
        refine E_region' (L := [0]) rfl ?_
        refine EOps_go rfl rfl (EOp_light rfl (by decide) (Pure.light (L_assign rfl)) ?_)
        refine EOps_nil ?_
        refine E_ret ?_
        refine ⟨_, [], rfl, rfl, ?_, rfl⟩
        simp [AV.ren, ren_sc, ren_ro, AC.ren, AC.ren.rens, ix, rv1, E.get, E.ev, E.cv, E.fill', E.fill, E.slotsOf, hne]
      · have hxy : x = y := by simpa using hc25
        refine E_skip ?_
        refine E_region' (L := [0, 1, 2]) rfl ?_
        refine EOps_go rfl rfl (EOp_light rfl (by decide) (Pure.light (L_move rfl)) ?_)
        refine EOps_go rfl rfl (EOp_light rfl (by decide) (Pure.light (by first | exact L_add rfl rfl rfl (by constructor <;> first | omega | (dsimp only; omega) | (simp [ints_len, pairs_len, bools_len]; omega)) | exact L_bin rfl rfl rfl rfl)) ?_)
        refine EOps_go rfl rfl (EOp_light rfl (by decide) (Pure.light (L_assign rfl)) ?_)
        refine EOps_nil ?_
        refine ⟨k + 1, ?_, ?_, rfl, ⟨.inr rfl, trivial⟩, ⟨.inr rfl, .inr rfl, .inr rfl, trivial⟩⟩
        · first | omega | (dsimp only; omega) | (simp; omega)
        · exact ⟨by omega, by rw [List.take_add_one, List.take_add_one, htk, hx, hy, hxy]⟩
    · have hk' : xs.length ≤ k := by simpa [ints_len] using hc14
      have heq : xs = ys := by rw [List.take_of_length_le hk', List.take_of_length_le (by omega)] at htk; exact htk
      refine E_exit ?_
      refine E_seq ?_
      refine E_region' (L := [0]) rfl ?_
      refine EOps_go rfl rfl (EOp_light rfl (by decide) (Pure.light (L_assign rfl)) ?_)
      refine EOps_nil ?_
      refine E_ret ?_
      refine ⟨_, [], rfl, rfl, ?_, rfl⟩
      simp [AV.ren, ren_sc, ren_ro, AC.ren, AC.ren.rens, ix, rv1, E.get, E.ev, E.cv, E.fill', E.fill, E.slotsOf, heq]

set_option maxRecDepth 20000 in
set_option maxHeartbeats 2000000 in
theorem c_slices_Equal___int_int_ (xs ys : List (Int)) : EFn Try.prog 64 [.c (.ro (ints xs)), .c (.ro (ints ys))] [] (fun r S => r = .c (.sc (.bool (decide (xs = ys)))) ∧ S = []) := by
  refine E_fn Try.func64 rfl (Nat.le_of_ble_eq_true rfl) ?_
  refine E_bound (t := 0) (rows := ints xs) rfl fun hb => ?_
  rw [ints_len] at hb
  refine E_seq ?_
  refine E_region' (L := [0]) rfl ?_
  refine EOps_go rfl rfl (EOp_light rfl (by decide) (Pure.light (L_assign rfl)) ?_)
  refine EOps_nil ?_
  refine E_seq ?_
  refine E_seq ?_
  refine E_region' (L := [0, 1, 2, 3, 4]) rfl ?_
  refine EOps_go rfl rfl (EOp_light rfl (by decide) (Pure.light (L_move rfl)) ?_)
  refine EOps_go rfl rfl (EOp_light rfl (by decide) (Pure.light (L_len rfl sl_35 rfl (by first | rfl | exact slOk_of (by first | rfl | assumption) (by first | assumption | exact ints_len _ | exact pairs_len _ | exact bools_len _ | (simp [ints_len, bools_len, pairs_len, part_len, *]; done) | (simp [ints_len, bools_len, pairs_len]; omega) | rfl)))) ?_)
  refine EOps_go rfl rfl (EOp_light rfl (by decide) (Pure.light (L_move rfl)) ?_)
  refine EOps_go rfl rfl (EOp_light rfl (by decide) (Pure.light (L_len rfl sl_35 rfl (by first | rfl | exact slOk_of (by first | rfl | assumption) (by first | assumption | exact ints_len _ | exact pairs_len _ | exact bools_len _ | (simp [ints_len, bools_len, pairs_len, part_len, *]; done) | (simp [ints_len, bools_len, pairs_len]; omega) | rfl)))) ?_)
  refine EOps_go rfl rfl (EOp_light rfl (by decide) (Pure.light (L_bin rfl rfl rfl rfl)) ?_)
  refine EOps_nil ?_
  refine E_cond rfl (fun hc10 => ?_) (fun hc10 => ?_)
  · have hne : xs ≠ ys := fun e => by subst e; simp at hc10
    refine E_seq ?_
    refine E_region' (L := [0]) rfl ?_
    refine EOps_go rfl rfl (EOp_light rfl (by decide) (Pure.light (L_assign rfl)) ?_)
    refine EOps_nil ?_
    refine E_ret ?_
    refine ⟨_, [], rfl, rfl, ?_, rfl⟩
    simp [AV.ren, ren_sc, ren_ro, AC.ren, AC.ren.rens, ix, rv1, E.get, E.ev, E.cv, E.fill', E.fill, E.slotsOf, hne]
  · have hlen : xs.length = ys.length := by simp [ints_len] at hc10; omega
    refine E_skip ?_
    refine E_seq ?_
    refine E_seq ?_
    refine E_region' (L := [0, 1, 2]) rfl ?_
    refine EOps_go rfl rfl (EOp_light rfl (by decide) (Pure.light (L_move rfl)) ?_)
    refine EOps_go rfl rfl (EOp_light rfl (by decide) (Pure.light (L_len rfl sl_35 rfl (by first | rfl | exact slOk_of (by first | rfl | assumption) (by first | assumption | exact ints_len _ | exact pairs_len _ | exact bools_len _ | (simp [ints_len, bools_len, pairs_len, part_len, *]; done) | (simp [ints_len, bools_len, pairs_len]; omega) | rfl)))) ?_)
    refine EOps_go rfl rfl (EOp_light rfl (by decide) (Pure.light (L_move rfl)) ?_)
    refine EOps_nil ?_
    refine E_block ?_
    refine E_for (α := Nat) [0, 1, 10, 12] (fun k => [(13, .c (.sc (.int .i64 (k)))), (5, .any)]) (fun _ => _) (fun k => k ≤ xs.length ∧ xs.take k = ys.take k) (fun k => xs.length - k) (0) (by simp only [E.keepOf, E.get, E.ev, E.cv, E.fill', E.fill, E.slotsOf, Res.sh, AC.sh, AC.sh.shs, AV.sh, E.splice, List.map_cons, List.map_nil, List.cons_append, List.nil_append, List.append_nil, List.length_cons, List.length_nil, List.take_zero, List.drop_zero, List.take_succ_cons, List.drop_succ_cons, List.drop_nil, List.take_nil, List.set_cons_zero, List.set_cons_succ, Nat.zero_add, Nat.add_zero, Nat.reduceAdd, Nat.reduceSub, reduceIte, Nat.reduceEqDiff, E.back, E.backR, E.ix, Res.un, AC.un, AC.un.uns, AV.un, E.un, Option.map_some, Option.map_none, Option.getD_some, List.getElem?_cons_zero, List.getElem?_cons_succ, List.getElem?_nil]; rfl) ?_ (rfl) ⟨.inr rfl, .inl rfl, trivial⟩ ?_
    · simp
    rintro k ⟨hk, htk⟩
    refine E_seq ?_
    refine E_region' (L := [0]) rfl ?_
    refine EOps_go rfl rfl (EOp_light rfl (by decide) (Pure.light (L_bin rfl rfl rfl rfl)) ?_)
    refine EOps_nil ?_
    refine E_seq ?_
    refine E_cond rfl (fun hc14 => ?_) (fun hc14 => ?_)
    · have hc14' : k < (xs).length := by simpa [ints_len, bools_len, pairs_len] using hc14
      obtain ⟨x, hx⟩ : ∃ x, (xs)[k]? = some x := ⟨_, List.getElem?_eq_getElem hc14'⟩
      obtain ⟨y, hy⟩ : ∃ y, ys[k]? = some y := ⟨_, List.getElem?_eq_getElem (hlen ▸ hc14')⟩
      refine E_skip ?_
      refine E_seq ?_
      refine E_block ?_
      refine E_seq ?_
      refine E_region' (L := [0, 1]) rfl ?_
      refine EOps_go rfl rfl (EOp_light rfl (by decide) (Pure.light (L_move rfl)) ?_)
      refine EOps_go rfl rfl (EOp_light rfl (by decide) (Pure.light (L_assign rfl)) ?_)
      refine EOps_nil ?_
      refine E_seq ?_
      refine E_drawT mixed ?_
      refine T_light (i := 0) rfl rfl (by kernel_rfl) (by kernel_rfl) (by kernel_rfl) rfl (by decide) (Pure.light (L_move rfl)) rfl ?_
      refine T_light (i := 1) rfl rfl (by kernel_rfl) (by kernel_rfl) (by kernel_rfl) rfl (by decide) (Pure.light (L_move rfl)) rfl ?_
      refine T_light (i := 2) rfl rfl (by kernel_rfl) (by kernel_rfl) (by kernel_rfl) rfl (by decide) (Pure.light (L_index rfl rfl (by first | exact iav_ro sl_35 ty_3 (by omega) (by first | (first | assumption | exact ints_at (by assumption) | exact bools_at (by assumption) | exact pairs_at (by assumption) | exact ints_at (part_at (by assumption)) | exact bools_at (part_at (by assumption)) | exact pairs_at (part_at (by assumption)) | exact List.getElem?_set_self (by omega) | rfl) | ((try simp only [Int.toNat_natCast, Nat.zero_add]); first | assumption | exact ints_at (by assumption) | exact bools_at (by assumption) | exact pairs_at (by assumption) | exact ints_at (part_at (by assumption)) | exact bools_at (part_at (by assumption)) | exact pairs_at (part_at (by assumption)) | exact List.getElem?_set_self (by omega) | rfl)) rfl | exact iav_sl sl_35 ty_3 (by omega) (by first | rfl | assumption) (by first | assumption | exact ints_len _ | exact pairs_len _ | exact bools_len _ | (simp [ints_len, bools_len, pairs_len, part_len, *]; done) | (simp [ints_len, bools_len, pairs_len]; omega) | rfl) (by first | omega | (simp [ints_len, bools_len, pairs_len]; omega))))) rfl ?_
      refine T_light (i := 3) rfl rfl (by kernel_rfl) (by kernel_rfl) (by kernel_rfl) rfl (by decide) (L_load rfl (by first | exact ld_bp (by first | rfl | assumption) ty_3 rfl | exact ld_rp ty_3 rfl | exact ld_ep (by first | rfl | assumption) (by first | assumption | exact ints_len _ | exact pairs_len _ | exact bools_len _ | (simp [ints_len, bools_len, pairs_len, part_len, *]; done) | (simp [ints_len, bools_len, pairs_len]; omega) | rfl) (by first | (first | assumption | exact ints_at (by assumption) | exact bools_at (by assumption) | exact pairs_at (by assumption) | exact ints_at (part_at (by assumption)) | exact bools_at (part_at (by assumption)) | exact pairs_at (part_at (by assumption)) | exact List.getElem?_set_self (by omega) | rfl) | ((try simp only [Int.toNat_natCast, Nat.zero_add]); first | assumption | exact ints_at (by assumption) | exact bools_at (by assumption) | exact pairs_at (by assumption) | exact ints_at (part_at (by assumption)) | exact bools_at (part_at (by assumption)) | exact pairs_at (part_at (by assumption)) | exact List.getElem?_set_self (by omega) | rfl)) ty_3 rfl)) rfl ?_
      refine T_light (i := 4) rfl rfl (by kernel_rfl) (by kernel_rfl) (by kernel_rfl) rfl (by decide) (Pure.light (L_move rfl)) rfl ?_
      refine T_light (i := 5) rfl rfl (by kernel_rfl) (by kernel_rfl) (by kernel_rfl) rfl (by decide) (Pure.light (L_move rfl)) rfl ?_
      refine T_light (i := 6) rfl rfl (by kernel_rfl) (by kernel_rfl) (by kernel_rfl) rfl (by decide) (Pure.light (L_index rfl rfl (by first | exact iav_ro sl_35 ty_3 (by omega) (by first | (first | assumption | exact ints_at (by assumption) | exact bools_at (by assumption) | exact pairs_at (by assumption) | exact ints_at (part_at (by assumption)) | exact bools_at (part_at (by assumption)) | exact pairs_at (part_at (by assumption)) | exact List.getElem?_set_self (by omega) | rfl) | ((try simp only [Int.toNat_natCast, Nat.zero_add]); first | assumption | exact ints_at (by assumption) | exact bools_at (by assumption) | exact pairs_at (by assumption) | exact ints_at (part_at (by assumption)) | exact bools_at (part_at (by assumption)) | exact pairs_at (part_at (by assumption)) | exact List.getElem?_set_self (by omega) | rfl)) rfl | exact iav_sl sl_35 ty_3 (by omega) (by first | rfl | assumption) (by first | assumption | exact ints_len _ | exact pairs_len _ | exact bools_len _ | (simp [ints_len, bools_len, pairs_len, part_len, *]; done) | (simp [ints_len, bools_len, pairs_len]; omega) | rfl) (by first | omega | (simp [ints_len, bools_len, pairs_len]; omega))))) rfl ?_
      refine T_light (i := 7) rfl rfl (by kernel_rfl) (by kernel_rfl) (by kernel_rfl) rfl (by decide) (L_load rfl (by first | exact ld_bp (by first | rfl | assumption) ty_3 rfl | exact ld_rp ty_3 rfl | exact ld_ep (by first | rfl | assumption) (by first | assumption | exact ints_len _ | exact pairs_len _ | exact bools_len _ | (simp [ints_len, bools_len, pairs_len, part_len, *]; done) | (simp [ints_len, bools_len, pairs_len]; omega) | rfl) (by first | (first | assumption | exact ints_at (by assumption) | exact bools_at (by assumption) | exact pairs_at (by assumption) | exact ints_at (part_at (by assumption)) | exact bools_at (part_at (by assumption)) | exact pairs_at (part_at (by assumption)) | exact List.getElem?_set_self (by omega) | rfl) | ((try simp only [Int.toNat_natCast, Nat.zero_add]); first | assumption | exact ints_at (by assumption) | exact bools_at (by assumption) | exact pairs_at (by assumption) | exact ints_at (part_at (by assumption)) | exact bools_at (part_at (by assumption)) | exact pairs_at (part_at (by assumption)) | exact List.getElem?_set_self (by omega) | rfl)) ty_3 rfl)) rfl ?_
      refine T_light (i := 8) rfl rfl (by kernel_rfl) (by kernel_rfl) (by kernel_rfl) rfl (by decide) (Pure.light (L_bin rfl rfl rfl rfl)) rfl ?_
      refine T_done (by kernel_rfl) ?_
      refine E_cond rfl (fun hc24 => ?_) (fun hc24 => ?_)
      · have hne : xs ≠ ys := fun e => by subst e; rw [hx] at hy; cases hy; simp at hc24
        refine E_seq ?_
        refine E_region' (L := [0]) rfl ?_
        refine EOps_go rfl rfl (EOp_light rfl (by decide) (Pure.light (L_assign rfl)) ?_)
        refine EOps_nil ?_
        refine E_ret ?_
        refine ⟨_, [], rfl, rfl, ?_, rfl⟩
        simp [AV.ren, ren_sc, ren_ro, AC.ren, AC.ren.rens, ix, rv1, E.get, E.ev, E.cv, E.fill', E.fill, E.slotsOf, hne]
      · have hxy : x = y := by simpa using hc24
        refine E_skip ?_
        refine E_region' (L := [0, 1]) rfl ?_
        refine EOps_go rfl rfl (EOp_light rfl (by decide) (Pure.light (by first | exact L_add rfl rfl rfl (by constructor <;> first | omega | (dsimp only; omega) | (simp [ints_len, pairs_len, bools_len]; omega)) | exact L_bin rfl rfl rfl rfl)) ?_)
        refine EOps_go rfl rfl (EOp_light rfl (by decide) (Pure.light (L_move rfl)) ?_)
        refine EOps_nil ?_
        refine ⟨k + 1, ?_, ?_, rfl, ⟨.inr rfl, .inl rfl, trivial⟩, ⟨.inr rfl, .inr rfl, .inr rfl, .inr rfl, trivial⟩⟩
        · first | omega | (dsimp only; omega) | (simp; omega)
        · exact ⟨by omega, by rw [List.take_add_one, List.take_add_one, htk, hx, hy, hxy]⟩
    · have hk' : xs.length ≤ k := by simpa [ints_len] using hc14
      have heq : xs = ys := by rw [List.take_of_length_le hk', List.take_of_length_le (by omega)] at htk; exact htk
      refine E_exit ?_
      refine E_seq ?_
      refine E_region' (L := [0]) rfl ?_
      refine EOps_go rfl rfl (EOp_light rfl (by decide) (Pure.light (L_assign rfl)) ?_)
      refine EOps_nil ?_
      refine E_ret ?_
      refine ⟨_, [], rfl, rfl, ?_, rfl⟩
      simp [AV.ren, ren_sc, ren_ro, AC.ren, AC.ren.rens, ix, rv1, E.get, E.ev, E.cv, E.fill', E.fill, E.slotsOf, heq]

set_option maxRecDepth 20000 in
set_option maxHeartbeats 2000000 in
theorem c_spec_l4Same (xs ys : List (Int × Int)) : EFn Try.prog 100 [.c (.ro (pairs xs)), .c (.ro (pairs ys))] [] (fun r S => r = .c (.sc (.bool (decide (xs = ys)))) ∧ S = []) := by
  refine E_fn Try.func100 rfl (Nat.le_of_ble_eq_true rfl) ?_
  refine E_bound (t := 0) (rows := pairs xs) rfl fun hb => ?_
  rw [pairs_len] at hb
  refine E_seq ?_
  refine E_region' (L := [0]) rfl ?_
  refine EOps_go rfl rfl (EOp_light rfl (by decide) (Pure.light (L_assign rfl)) ?_)
  refine EOps_nil ?_
  refine E_seq ?_
  refine E_seq ?_
  refine E_region' (L := [0, 1, 2, 3, 4]) rfl ?_
  refine EOps_go rfl rfl (EOp_light rfl (by decide) (Pure.light (L_move rfl)) ?_)
  refine EOps_go rfl rfl (EOp_light rfl (by decide) (Pure.light (L_len rfl sl_47 rfl (by first | rfl | exact slOk_of (by first | rfl | assumption) (by first | assumption | exact ints_len _ | exact pairs_len _ | exact bools_len _ | (simp [ints_len, bools_len, pairs_len, part_len, *]; done) | (simp [ints_len, bools_len, pairs_len]; omega) | rfl)))) ?_)
  refine EOps_go rfl rfl (EOp_light rfl (by decide) (Pure.light (L_move rfl)) ?_)
  refine EOps_go rfl rfl (EOp_light rfl (by decide) (Pure.light (L_len rfl sl_47 rfl (by first | rfl | exact slOk_of (by first | rfl | assumption) (by first | assumption | exact ints_len _ | exact pairs_len _ | exact bools_len _ | (simp [ints_len, bools_len, pairs_len, part_len, *]; done) | (simp [ints_len, bools_len, pairs_len]; omega) | rfl)))) ?_)
  refine EOps_go rfl rfl (EOp_light rfl (by decide) (Pure.light (L_bin rfl rfl rfl rfl)) ?_)
  refine EOps_nil ?_
  refine E_cond rfl (fun hc10 => ?_) (fun hc10 => ?_)
  · have hne : xs ≠ ys := fun e => by subst e; simp at hc10
    refine E_seq ?_
    refine E_region' (L := [0]) rfl ?_
    refine EOps_go rfl rfl (EOp_light rfl (by decide) (Pure.light (L_assign rfl)) ?_)
    refine EOps_nil ?_
    refine E_ret ?_
    refine ⟨_, [], rfl, rfl, ?_, rfl⟩
    simp [AV.ren, ren_sc, ren_ro, AC.ren, AC.ren.rens, ix, rv1, E.get, E.ev, E.cv, E.fill', E.fill, E.slotsOf, hne]
  · have hlen : xs.length = ys.length := by simp [pairs_len] at hc10; omega
    refine E_skip ?_
    refine E_seq ?_
    refine E_seq ?_
    refine E_region' (L := [0]) rfl ?_
    refine EOps_go rfl rfl (EOp_light rfl (by decide) (Pure.light (L_assign rfl)) ?_)
    refine EOps_nil ?_
    refine E_block ?_
    refine E_for (α := Nat) [0, 1, 10] (fun k => [(5, .c (.sc (.int .i64 (k))))]) (fun _ => _) (fun k => k ≤ xs.length ∧ xs.take k = ys.take k) (fun k => xs.length - k) (0) (by simp only [E.keepOf, E.get, E.ev, E.cv, E.fill', E.fill, E.slotsOf, Res.sh, AC.sh, AC.sh.shs, AV.sh, E.splice, List.map_cons, List.map_nil, List.cons_append, List.nil_append, List.append_nil, List.length_cons, List.length_nil, List.take_zero, List.drop_zero, List.take_succ_cons, List.drop_succ_cons, List.drop_nil, List.take_nil, List.set_cons_zero, List.set_cons_succ, Nat.zero_add, Nat.add_zero, Nat.reduceAdd, Nat.reduceSub, reduceIte, Nat.reduceEqDiff, E.back, E.backR, E.ix, Res.un, AC.un, AC.un.uns, AV.un, E.un, Option.map_some, Option.map_none, Option.getD_some, List.getElem?_cons_zero, List.getElem?_cons_succ, List.getElem?_nil]; rfl) ?_ (rfl) ⟨.inr rfl, trivial⟩ ?_
    · simp
    rintro k ⟨hk, htk⟩
    refine E_seq ?_
    refine E_seq ?_
    refine E_region' (L := [0, 1, 2, 3]) rfl ?_
    refine EOps_go rfl rfl (EOp_light rfl (by decide) (Pure.light (L_move rfl)) ?_)
    refine EOps_go rfl rfl (EOp_light rfl (by decide) (Pure.light (L_move rfl)) ?_)
    refine EOps_go rfl rfl (EOp_light rfl (by decide) (Pure.light (L_len rfl sl_47 rfl (by first | rfl | exact slOk_of (by first | rfl | assumption) (by first | assumption | exact ints_len _ | exact pairs_len _ | exact bools_len _ | (simp [ints_len, bools_len, pairs_len, part_len, *]; done) | (simp [ints_len, bools_len, pairs_len]; omega) | rfl)))) ?_)
    refine EOps_go rfl rfl (EOp_light rfl (by decide) (Pure.light (L_bin rfl rfl rfl rfl)) ?_)
    refine EOps_nil ?_
    refine E_cond rfl (fun hc14 => ?_) (fun hc14 => ?_)
    · have hc14' : k < (xs).length := by simpa [ints_len, bools_len, pairs_len] using hc14
      obtain ⟨x, hx⟩ : ∃ x, (xs)[k]? = some x := ⟨_, List.getElem?_eq_getElem hc14'⟩
      obtain ⟨y, hy⟩ : ∃ y, ys[k]? = some y := ⟨_, List.getElem?_eq_getElem (hlen ▸ hc14')⟩
      refine E_skip ?_
      refine E_seq ?_
      refine E_block ?_
      refine E_seq ?_
      refine E_drawT mixed ?_
      refine T_light (i := 0) rfl rfl (by kernel_rfl) (by kernel_rfl) (by kernel_rfl) rfl (by decide) (Pure.light (L_move rfl)) rfl ?_
      refine T_light (i := 1) rfl rfl (by kernel_rfl) (by kernel_rfl) (by kernel_rfl) rfl (by decide) (Pure.light (L_move rfl)) rfl ?_
      refine T_light (i := 2) rfl rfl (by kernel_rfl) (by kernel_rfl) (by kernel_rfl) rfl (by decide) (Pure.light (L_index rfl rfl (by first | exact iav_ro sl_47 ty_111 (by omega) (by first | (first | assumption | exact ints_at (by assumption) | exact bools_at (by assumption) | exact pairs_at (by assumption) | exact ints_at (part_at (by assumption)) | exact bools_at (part_at (by assumption)) | exact pairs_at (part_at (by assumption)) | exact List.getElem?_set_self (by omega) | rfl) | ((try simp only [Int.toNat_natCast, Nat.zero_add]); first | assumption | exact ints_at (by assumption) | exact bools_at (by assumption) | exact pairs_at (by assumption) | exact ints_at (part_at (by assumption)) | exact bools_at (part_at (by assumption)) | exact pairs_at (part_at (by assumption)) | exact List.getElem?_set_self (by omega) | rfl)) rfl | exact iav_sl sl_47 ty_111 (by omega) (by first | rfl | assumption) (by first | assumption | exact ints_len _ | exact pairs_len _ | exact bools_len _ | (simp [ints_len, bools_len, pairs_len, part_len, *]; done) | (simp [ints_len, bools_len, pairs_len]; omega) | rfl) (by first | omega | (simp [ints_len, bools_len, pairs_len]; omega))))) rfl ?_
      refine T_light (i := 3) rfl rfl (by kernel_rfl) (by kernel_rfl) (by kernel_rfl) rfl (by decide) (L_load rfl (by first | exact ld_bp (by first | rfl | assumption) ty_111 rfl | exact ld_rp ty_111 rfl | exact ld_ep (by first | rfl | assumption) (by first | assumption | exact ints_len _ | exact pairs_len _ | exact bools_len _ | (simp [ints_len, bools_len, pairs_len, part_len, *]; done) | (simp [ints_len, bools_len, pairs_len]; omega) | rfl) (by first | (first | assumption | exact ints_at (by assumption) | exact bools_at (by assumption) | exact pairs_at (by assumption) | exact ints_at (part_at (by assumption)) | exact bools_at (part_at (by assumption)) | exact pairs_at (part_at (by assumption)) | exact List.getElem?_set_self (by omega) | rfl) | ((try simp only [Int.toNat_natCast, Nat.zero_add]); first | assumption | exact ints_at (by assumption) | exact bools_at (by assumption) | exact pairs_at (by assumption) | exact ints_at (part_at (by assumption)) | exact bools_at (part_at (by assumption)) | exact pairs_at (part_at (by assumption)) | exact List.getElem?_set_self (by omega) | rfl)) ty_111 rfl)) rfl ?_
      refine T_light (i := 4) rfl rfl (by kernel_rfl) (by kernel_rfl) (by kernel_rfl) rfl (by decide) (Pure.light (L_move rfl)) rfl ?_
      refine T_light (i := 5) rfl rfl (by kernel_rfl) (by kernel_rfl) (by kernel_rfl) rfl (by decide) (Pure.light (L_move rfl)) rfl ?_
      refine T_light (i := 6) rfl rfl (by kernel_rfl) (by kernel_rfl) (by kernel_rfl) rfl (by decide) (Pure.light (L_index rfl rfl (by first | exact iav_ro sl_47 ty_111 (by omega) (by first | (first | assumption | exact ints_at (by assumption) | exact bools_at (by assumption) | exact pairs_at (by assumption) | exact ints_at (part_at (by assumption)) | exact bools_at (part_at (by assumption)) | exact pairs_at (part_at (by assumption)) | exact List.getElem?_set_self (by omega) | rfl) | ((try simp only [Int.toNat_natCast, Nat.zero_add]); first | assumption | exact ints_at (by assumption) | exact bools_at (by assumption) | exact pairs_at (by assumption) | exact ints_at (part_at (by assumption)) | exact bools_at (part_at (by assumption)) | exact pairs_at (part_at (by assumption)) | exact List.getElem?_set_self (by omega) | rfl)) rfl | exact iav_sl sl_47 ty_111 (by omega) (by first | rfl | assumption) (by first | assumption | exact ints_len _ | exact pairs_len _ | exact bools_len _ | (simp [ints_len, bools_len, pairs_len, part_len, *]; done) | (simp [ints_len, bools_len, pairs_len]; omega) | rfl) (by first | omega | (simp [ints_len, bools_len, pairs_len]; omega))))) rfl ?_
      refine T_light (i := 7) rfl rfl (by kernel_rfl) (by kernel_rfl) (by kernel_rfl) rfl (by decide) (L_load rfl (by first | exact ld_bp (by first | rfl | assumption) ty_111 rfl | exact ld_rp ty_111 rfl | exact ld_ep (by first | rfl | assumption) (by first | assumption | exact ints_len _ | exact pairs_len _ | exact bools_len _ | (simp [ints_len, bools_len, pairs_len, part_len, *]; done) | (simp [ints_len, bools_len, pairs_len]; omega) | rfl) (by first | (first | assumption | exact ints_at (by assumption) | exact bools_at (by assumption) | exact pairs_at (by assumption) | exact ints_at (part_at (by assumption)) | exact bools_at (part_at (by assumption)) | exact pairs_at (part_at (by assumption)) | exact List.getElem?_set_self (by omega) | rfl) | ((try simp only [Int.toNat_natCast, Nat.zero_add]); first | assumption | exact ints_at (by assumption) | exact bools_at (by assumption) | exact pairs_at (by assumption) | exact ints_at (part_at (by assumption)) | exact bools_at (part_at (by assumption)) | exact pairs_at (part_at (by assumption)) | exact List.getElem?_set_self (by omega) | rfl)) ty_111 rfl)) rfl ?_
      refine T_light (i := 8) rfl rfl (by kernel_rfl) (by kernel_rfl) (by kernel_rfl) rfl (by decide) (Pure.light (L_binA rfl se_111 fd_111 rfl rfl rfl rfl ⟨rfl, rfl⟩ rfl)) rfl ?_
      refine T_done (by kernel_rfl) ?_
      refine E_cond rfl (fun hc25 => ?_) (fun hc25 => ?_)
      · have hne : xs ≠ ys := fun e => by subst e; rw [hx] at hy; cases hy; simp at hc25
        refine E_seq ?_
        refine E_region' (L := [0]) rfl ?_
        refine EOps_go rfl rfl (EOp_light rfl (by decide) (Pure.light (L_assign rfl)) ?_)
        refine EOps_nil ?_
        refine E_ret ?_
        refine ⟨_, [], rfl, rfl, ?_, rfl⟩
        simp [AV.ren, ren_sc, ren_ro, AC.ren, AC.ren.rens, ix, rv1, E.get, E.ev, E.cv, E.fill', E.fill, E.slotsOf, hne]
      · have hxy : x = y := by simp at hc25; exact Prod.ext hc25.1 hc25.2
        refine E_skip ?_
        refine E_region' (L := [0, 1, 2]) rfl ?_
        refine EOps_go rfl rfl (EOp_light rfl (by decide) (Pure.light (L_move rfl)) ?_)
        refine EOps_go rfl rfl (EOp_light rfl (by decide) (Pure.light (by first | exact L_add rfl rfl rfl (by constructor <;> first | omega | (dsimp only; omega) | (simp [ints_len, pairs_len, bools_len]; omega)) | exact L_bin rfl rfl rfl rfl)) ?_)
        refine EOps_go rfl rfl (EOp_light rfl (by decide) (Pure.light (L_assign rfl)) ?_)
        refine EOps_nil ?_
        refine ⟨k + 1, ?_, ?_, rfl, ⟨.inr rfl, trivial⟩, ⟨.inr rfl, .inr rfl, .inr rfl, trivial⟩⟩
        · first | omega | (dsimp only; omega) | (simp; omega)
        · exact ⟨by omega, by rw [List.take_add_one, List.take_add_one, htk, hx, hy, hxy]⟩
    · have hk' : xs.length ≤ k := by simpa [pairs_len] using hc14
      have heq : xs = ys := by rw [List.take_of_length_le hk', List.take_of_length_le (by omega)] at htk; exact htk
      refine E_exit ?_
      refine E_seq ?_
      refine E_region' (L := [0]) rfl ?_
      refine EOps_go rfl rfl (EOp_light rfl (by decide) (Pure.light (L_assign rfl)) ?_)
      refine EOps_nil ?_
      refine E_ret ?_
      refine ⟨_, [], rfl, rfl, ?_, rfl⟩
      simp [AV.ren, ren_sc, ren_ro, AC.ren, AC.ren.rens, ix, rv1, E.get, E.ev, E.cv, E.fill', E.fill, E.slotsOf, heq]

set_option maxRecDepth 20000 in
set_option maxHeartbeats 2000000 in
theorem c_slices_Equal___impl_Pivot_impl_Pivot_ (xs ys : List (Int × Int)) : EFn Try.prog 101 [.c (.ro (pairs xs)), .c (.ro (pairs ys))] [] (fun r S => r = .c (.sc (.bool (decide (xs = ys)))) ∧ S = []) := by
  refine E_fn Try.func101 rfl (Nat.le_of_ble_eq_true rfl) ?_
  refine E_bound (t := 0) (rows := pairs xs) rfl fun hb => ?_
  rw [pairs_len] at hb
  refine E_seq ?_
  refine E_region' (L := [0]) rfl ?_
  refine EOps_go rfl rfl (EOp_light rfl (by decide) (Pure.light (L_assign rfl)) ?_)
  refine EOps_nil ?_
  refine E_seq ?_
  refine E_seq ?_
  refine E_region' (L := [0, 1, 2, 3, 4]) rfl ?_
  refine EOps_go rfl rfl (EOp_light rfl (by decide) (Pure.light (L_move rfl)) ?_)
  refine EOps_go rfl rfl (EOp_light rfl (by decide) (Pure.light (L_len rfl sl_47 rfl (by first | rfl | exact slOk_of (by first | rfl | assumption) (by first | assumption | exact ints_len _ | exact pairs_len _ | exact bools_len _ | (simp [ints_len, bools_len, pairs_len, part_len, *]; done) | (simp [ints_len, bools_len, pairs_len]; omega) | rfl)))) ?_)
  refine EOps_go rfl rfl (EOp_light rfl (by decide) (Pure.light (L_move rfl)) ?_)
  refine EOps_go rfl rfl (EOp_light rfl (by decide) (Pure.light (L_len rfl sl_47 rfl (by first | rfl | exact slOk_of (by first | rfl | assumption) (by first | assumption | exact ints_len _ | exact pairs_len _ | exact bools_len _ | (simp [ints_len, bools_len, pairs_len, part_len, *]; done) | (simp [ints_len, bools_len, pairs_len]; omega) | rfl)))) ?_)
  refine EOps_go rfl rfl (EOp_light rfl (by decide) (Pure.light (L_bin rfl rfl rfl rfl)) ?_)
  refine EOps_nil ?_
  refine E_cond rfl (fun hc10 => ?_) (fun hc10 => ?_)
  · have hne : xs ≠ ys := fun e => by subst e; simp at hc10
    refine E_seq ?_
    refine E_region' (L := [0]) rfl ?_
    refine EOps_go rfl rfl (EOp_light rfl (by decide) (Pure.light (L_assign rfl)) ?_)
    refine EOps_nil ?_
    refine E_ret ?_
    refine ⟨_, [], rfl, rfl, ?_, rfl⟩
    simp [AV.ren, ren_sc, ren_ro, AC.ren, AC.ren.rens, ix, rv1, E.get, E.ev, E.cv, E.fill', E.fill, E.slotsOf, hne]
  · have hlen : xs.length = ys.length := by simp [pairs_len] at hc10; omega
    refine E_skip ?_
    refine E_seq ?_
    refine E_seq ?_
    refine E_region' (L := [0, 1, 2]) rfl ?_
    refine EOps_go rfl rfl (EOp_light rfl (by decide) (Pure.light (L_move rfl)) ?_)
    refine EOps_go rfl rfl (EOp_light rfl (by decide) (Pure.light (L_len rfl sl_47 rfl (by first | rfl | exact slOk_of (by first | rfl | assumption) (by first | assumption | exact ints_len _ | exact pairs_len _ | exact bools_len _ | (simp [ints_len, bools_len, pairs_len, part_len, *]; done) | (simp [ints_len, bools_len, pairs_len]; omega) | rfl)))) ?_)
    refine EOps_go rfl rfl (EOp_light rfl (by decide) (Pure.light (L_move rfl)) ?_)
    refine EOps_nil ?_
    refine E_block ?_
    refine E_for (α := Nat) [0, 1, 10, 12] (fun k => [(13, .c (.sc (.int .i64 (k)))), (5, .any)]) (fun _ => _) (fun k => k ≤ xs.length ∧ xs.take k = ys.take k) (fun k => xs.length - k) (0) (by simp only [E.keepOf, E.get, E.ev, E.cv, E.fill', E.fill, E.slotsOf, Res.sh, AC.sh, AC.sh.shs, AV.sh, E.splice, List.map_cons, List.map_nil, List.cons_append, List.nil_append, List.append_nil, List.length_cons, List.length_nil, List.take_zero, List.drop_zero, List.take_succ_cons, List.drop_succ_cons, List.drop_nil, List.take_nil, List.set_cons_zero, List.set_cons_succ, Nat.zero_add, Nat.add_zero, Nat.reduceAdd, Nat.reduceSub, reduceIte, Nat.reduceEqDiff, E.back, E.backR, E.ix, Res.un, AC.un, AC.un.uns, AV.un, E.un, Option.map_some, Option.map_none, Option.getD_some, List.getElem?_cons_zero, List.getElem?_cons_succ, List.getElem?_nil]; rfl) ?_ (rfl) ⟨.inr rfl, .inl rfl, trivial⟩ ?_
    · simp
    rintro k ⟨hk, htk⟩
    refine E_seq ?_
    refine E_region' (L := [0]) rfl ?_
    refine EOps_go rfl rfl (EOp_light rfl (by decide) (Pure.light (L_bin rfl rfl rfl rfl)) ?_)
    refine EOps_nil ?_
    refine E_seq ?_
    refine E_cond rfl (fun hc14 => ?_) (fun hc14 => ?_)
    · have hc14' : k < (xs).length := by simpa [ints_len, bools_len, pairs_len] using hc14
      obtain ⟨x, hx⟩ : ∃ x, (xs)[k]? = some x := ⟨_, List.getElem?_eq_getElem hc14'⟩
      obtain ⟨y, hy⟩ : ∃ y, ys[k]? = some y := ⟨_, List.getElem?_eq_getElem (hlen ▸ hc14')⟩
      refine E_skip ?_
      refine E_seq ?_
      refine E_block ?_
      refine E_seq ?_
      refine E_region' (L := [0, 1]) rfl ?_
      refine EOps_go rfl rfl (EOp_light rfl (by decide) (Pure.light (L_move rfl)) ?_)
      refine EOps_go rfl rfl (EOp_light rfl (by decide) (Pure.light (L_assign rfl)) ?_)
      refine EOps_nil ?_
      refine E_seq ?_
      refine E_drawT mixed ?_
      refine T_light (i := 0) rfl rfl (by kernel_rfl) (by kernel_rfl) (by kernel_rfl) rfl (by decide) (Pure.light (L_move rfl)) rfl ?_
      refine T_light (i := 1) rfl rfl (by kernel_rfl) (by kernel_rfl) (by kernel_rfl) rfl (by decide) (Pure.light (L_move rfl)) rfl ?_
      refine T_light (i := 2) rfl rfl (by kernel_rfl) (by kernel_rfl) (by kernel_rfl) rfl (by decide) (Pure.light (L_index rfl rfl (by first | exact iav_ro sl_47 ty_111 (by omega) (by first | (first | assumption | exact ints_at (by assumption) | exact bools_at (by assumption) | exact pairs_at (by assumption) | exact ints_at (part_at (by assumption)) | exact bools_at (part_at (by assumption)) | exact pairs_at (part_at (by assumption)) | exact List.getElem?_set_self (by omega) | rfl) | ((try simp only [Int.toNat_natCast, Nat.zero_add]); first | assumption | exact ints_at (by assumption) | exact bools_at (by assumption) | exact pairs_at (by assumption) | exact ints_at (part_at (by assumption)) | exact bools_at (part_at (by assumption)) | exact pairs_at (part_at (by assumption)) | exact List.getElem?_set_self (by omega) | rfl)) rfl | exact iav_sl sl_47 ty_111 (by omega) (by first | rfl | assumption) (by first | assumption | exact ints_len _ | exact pairs_len _ | exact bools_len _ | (simp [ints_len, bools_len, pairs_len, part_len, *]; done) | (simp [ints_len, bools_len, pairs_len]; omega) | rfl) (by first | omega | (simp [ints_len, bools_len, pairs_len]; omega))))) rfl ?_
      refine T_light (i := 3) rfl rfl (by kernel_rfl) (by kernel_rfl) (by kernel_rfl) rfl (by decide) (L_load rfl (by first | exact ld_bp (by first | rfl | assumption) ty_111 rfl | exact ld_rp ty_111 rfl | exact ld_ep (by first | rfl | assumption) (by first | assumption | exact ints_len _ | exact pairs_len _ | exact bools_len _ | (simp [ints_len, bools_len, pairs_len, part_len, *]; done) | (simp [ints_len, bools_len, pairs_len]; omega) | rfl) (by first | (first | assumption | exact ints_at (by assumption) | exact bools_at (by assumption) | exact pairs_at (by assumption) | exact ints_at (part_at (by assumption)) | exact bools_at (part_at (by assumption)) | exact pairs_at (part_at (by assumption)) | exact List.getElem?_set_self (by omega) | rfl) | ((try simp only [Int.toNat_natCast, Nat.zero_add]); first | assumption | exact ints_at (by assumption) | exact bools_at (by assumption) | exact pairs_at (by assumption) | exact ints_at (part_at (by assumption)) | exact bools_at (part_at (by assumption)) | exact pairs_at (part_at (by assumption)) | exact List.getElem?_set_self (by omega) | rfl)) ty_111 rfl)) rfl ?_
      refine T_light (i := 4) rfl rfl (by kernel_rfl) (by kernel_rfl) (by kernel_rfl) rfl (by decide) (Pure.light (L_move rfl)) rfl ?_
      refine T_light (i := 5) rfl rfl (by kernel_rfl) (by kernel_rfl) (by kernel_rfl) rfl (by decide) (Pure.light (L_move rfl)) rfl ?_
      refine T_light (i := 6) rfl rfl (by kernel_rfl) (by kernel_rfl) (by kernel_rfl) rfl (by decide) (Pure.light (L_index rfl rfl (by first | exact iav_ro sl_47 ty_111 (by omega) (by first | (first | assumption | exact ints_at (by assumption) | exact bools_at (by assumption) | exact pairs_at (by assumption) | exact ints_at (part_at (by assumption)) | exact bools_at (part_at (by assumption)) | exact pairs_at (part_at (by assumption)) | exact List.getElem?_set_self (by omega) | rfl) | ((try simp only [Int.toNat_natCast, Nat.zero_add]); first | assumption | exact ints_at (by assumption) | exact bools_at (by assumption) | exact pairs_at (by assumption) | exact ints_at (part_at (by assumption)) | exact bools_at (part_at (by assumption)) | exact pairs_at (part_at (by assumption)) | exact List.getElem?_set_self (by omega) | rfl)) rfl | exact iav_sl sl_47 ty_111 (by omega) (by first | rfl | assumption) (by first | assumption | exact ints_len _ | exact pairs_len _ | exact bools_len _ | (simp [ints_len, bools_len, pairs_len, part_len, *]; done) | (simp [ints_len, bools_len, pairs_len]; omega) | rfl) (by first | omega | (simp [ints_len, bools_len, pairs_len]; omega))))) rfl ?_
      refine T_light (i := 7) rfl rfl (by kernel_rfl) (by kernel_rfl) (by kernel_rfl) rfl (by decide) (L_load rfl (by first | exact ld_bp (by first | rfl | assumption) ty_111 rfl | exact ld_rp ty_111 rfl | exact ld_ep (by first | rfl | assumption) (by first | assumption | exact ints_len _ | exact pairs_len _ | exact bools_len _ | (simp [ints_len, bools_len, pairs_len, part_len, *]; done) | (simp [ints_len, bools_len, pairs_len]; omega) | rfl) (by first | (first | assumption | exact ints_at (by assumption) | exact bools_at (by assumption) | exact pairs_at (by assumption) | exact ints_at (part_at (by assumption)) | exact bools_at (part_at (by assumption)) | exact pairs_at (part_at (by assumption)) | exact List.getElem?_set_self (by omega) | rfl) | ((try simp only [Int.toNat_natCast, Nat.zero_add]); first | assumption | exact ints_at (by assumption) | exact bools_at (by assumption) | exact pairs_at (by assumption) | exact ints_at (part_at (by assumption)) | exact bools_at (part_at (by assumption)) | exact pairs_at (part_at (by assumption)) | exact List.getElem?_set_self (by omega) | rfl)) ty_111 rfl)) rfl ?_
      refine T_light (i := 8) rfl rfl (by kernel_rfl) (by kernel_rfl) (by kernel_rfl) rfl (by decide) (Pure.light (L_binA rfl se_111 fd_111 rfl rfl rfl rfl ⟨rfl, rfl⟩ rfl)) rfl ?_
      refine T_done (by kernel_rfl) ?_
      refine E_cond rfl (fun hc24 => ?_) (fun hc24 => ?_)
      · have hne : xs ≠ ys := fun e => by subst e; rw [hx] at hy; cases hy; simp at hc24
        refine E_seq ?_
        refine E_region' (L := [0]) rfl ?_
        refine EOps_go rfl rfl (EOp_light rfl (by decide) (Pure.light (L_assign rfl)) ?_)
        refine EOps_nil ?_
        refine E_ret ?_
        refine ⟨_, [], rfl, rfl, ?_, rfl⟩
        simp [AV.ren, ren_sc, ren_ro, AC.ren, AC.ren.rens, ix, rv1, E.get, E.ev, E.cv, E.fill', E.fill, E.slotsOf, hne]
      · have hxy : x = y := by simp at hc24; exact Prod.ext hc24.1 hc24.2
        refine E_skip ?_
        refine E_region' (L := [0, 1]) rfl ?_
        refine EOps_go rfl rfl (EOp_light rfl (by decide) (Pure.light (by first | exact L_add rfl rfl rfl (by constructor <;> first | omega | (dsimp only; omega) | (simp [ints_len, pairs_len, bools_len]; omega)) | exact L_bin rfl rfl rfl rfl)) ?_)
        refine EOps_go rfl rfl (EOp_light rfl (by decide) (Pure.light (L_move rfl)) ?_)
        refine EOps_nil ?_
        refine ⟨k + 1, ?_, ?_, rfl, ⟨.inr rfl, .inl rfl, trivial⟩, ⟨.inr rfl, .inr rfl, .inr rfl, .inr rfl, trivial⟩⟩
        · first | omega | (dsimp only; omega) | (simp; omega)
        · exact ⟨by omega, by rw [List.take_add_one, List.take_add_one, htk, hx, hy, hxy]⟩
    · have hk' : xs.length ≤ k := by simpa [pairs_len] using hc14
      have heq : xs = ys := by rw [List.take_of_length_le hk', List.take_of_length_le (by omega)] at htk; exact htk
      refine E_exit ?_
      refine E_seq ?_
      refine E_region' (L := [0]) rfl ?_
      refine EOps_go rfl rfl (EOp_light rfl (by decide) (Pure.light (L_assign rfl)) ?_)
      refine EOps_nil ?_
      refine E_ret ?_
      refine ⟨_, [], rfl, rfl, ?_, rfl⟩
      simp [AV.ren, ren_sc, ren_ro, AC.ren, AC.ren.rens, ix, rv1, E.get, E.ev, E.cv, E.fill', E.fill, E.slotsOf, heq]

set_option maxRecDepth 20000 in
set_option maxHeartbeats 2000000 in
theorem c_laws_eqPivot (a b : Int × Int) : EFn Try.prog 112 [.agg [.sc (.int .i64 a.1), .sc (.int .i64 a.2)], .agg [.sc (.int .i64 b.1), .sc (.int .i64 b.2)]] [] (fun r S => r = .c (.sc (.bool (decide (a = b)))) ∧ S = []) := by
  refine E_fn Try.func112 rfl (Nat.le_of_ble_eq_true rfl) ?_
  obtain ⟨a1, a2⟩ := a
  obtain ⟨b1, b2⟩ := b
  refine E_seq ?_
  refine E_region' (L := [0, 1, 2]) rfl ?_
  refine EOps_go rfl rfl (EOp_box rfl rfl (by decide) rfl ?_)
  refine EOps_go rfl rfl (EOp_box rfl rfl (by decide) rfl ?_)
  refine EOps_go rfl rfl (EOp_light rfl (by decide) (Pure.light (L_assign rfl)) ?_)
  refine EOps_nil ?_
  refine E_seq ?_
  refine E_seq ?_
  refine E_region' (L := [0, 1, 2, 3, 4]) rfl ?_
  refine EOps_go rfl rfl (EOp_light rfl (by decide) (Pure.light (L_field rfl fo_111_0 (by first | rfl | exact ptrOk_of (by first | rfl | assumption) (by first | assumption | exact ints_len _ | exact pairs_len _ | exact bools_len _ | (simp [ints_len, bools_len, pairs_len, part_len, *]; done) | (simp [ints_len, bools_len, pairs_len]; omega) | rfl)) rfl)) ?_)
  refine EOps_go rfl rfl (EOp_light rfl (by decide) (L_load rfl (by first | exact ld_bp (by first | rfl | assumption) ty_3 rfl | exact ld_rp ty_3 rfl | exact ld_ep (by first | rfl | assumption) (by first | assumption | exact ints_len _ | exact pairs_len _ | exact bools_len _ | (simp [ints_len, bools_len, pairs_len, part_len, *]; done) | (simp [ints_len, bools_len, pairs_len]; omega) | rfl) (by first | (first | assumption | exact ints_at (by assumption) | exact bools_at (by assumption) | exact pairs_at (by assumption) | exact ints_at (part_at (by assumption)) | exact bools_at (part_at (by assumption)) | exact pairs_at (part_at (by assumption)) | exact List.getElem?_set_self (by omega) | rfl) | ((try simp only [Int.toNat_natCast, Nat.zero_add]); first | assumption | exact ints_at (by assumption) | exact bools_at (by assumption) | exact pairs_at (by assumption) | exact ints_at (part_at (by assumption)) | exact bools_at (part_at (by assumption)) | exact pairs_at (part_at (by assumption)) | exact List.getElem?_set_self (by omega) | rfl)) ty_3 rfl)) ?_)
  refine EOps_go rfl rfl (EOp_light rfl (by decide) (Pure.light (L_field rfl fo_111_0 (by first | rfl | exact ptrOk_of (by first | rfl | assumption) (by first | assumption | exact ints_len _ | exact pairs_len _ | exact bools_len _ | (simp [ints_len, bools_len, pairs_len, part_len, *]; done) | (simp [ints_len, bools_len, pairs_len]; omega) | rfl)) rfl)) ?_)
  refine EOps_go rfl rfl (EOp_light rfl (by decide) (L_load rfl (by first | exact ld_bp (by first | rfl | assumption) ty_3 rfl | exact ld_rp ty_3 rfl | exact ld_ep (by first | rfl | assumption) (by first | assumption | exact ints_len _ | exact pairs_len _ | exact bools_len _ | (simp [ints_len, bools_len, pairs_len, part_len, *]; done) | (simp [ints_len, bools_len, pairs_len]; omega) | rfl) (by first | (first | assumption | exact ints_at (by assumption) | exact bools_at (by assumption) | exact pairs_at (by assumption) | exact ints_at (part_at (by assumption)) | exact bools_at (part_at (by assumption)) | exact pairs_at (part_at (by assumption)) | exact List.getElem?_set_self (by omega) | rfl) | ((try simp only [Int.toNat_natCast, Nat.zero_add]); first | assumption | exact ints_at (by assumption) | exact bools_at (by assumption) | exact pairs_at (by assumption) | exact ints_at (part_at (by assumption)) | exact bools_at (part_at (by assumption)) | exact pairs_at (part_at (by assumption)) | exact List.getElem?_set_self (by omega) | rfl)) ty_3 rfl)) ?_)
  refine EOps_go rfl rfl (EOp_light rfl (by decide) (Pure.light (L_bin rfl rfl rfl rfl)) ?_)
  refine EOps_nil ?_
  refine E_cond rfl (fun hc9 => ?_) (fun hc9 => ?_)
  · refine E_seq ?_
    refine E_region' (L := [0]) rfl ?_
    refine EOps_go rfl rfl (EOp_light rfl (by decide) (Pure.light (L_assign rfl)) ?_)
    refine EOps_nil ?_
    refine E_ret ?_
    refine ⟨_, [], rfl, rfl, bool_eq ?_, rfl⟩
    simp_all [tc]
  · refine E_skip ?_
    refine E_seq ?_
    refine E_seq ?_
    refine E_region' (L := [0, 1, 2, 3, 4]) rfl ?_
    refine EOps_go rfl rfl (EOp_light rfl (by decide) (Pure.light (L_field rfl fo_111_1 (by first | rfl | exact ptrOk_of (by first | rfl | assumption) (by first | assumption | exact ints_len _ | exact pairs_len _ | exact bools_len _ | (simp [ints_len, bools_len, pairs_len, part_len, *]; done) | (simp [ints_len, bools_len, pairs_len]; omega) | rfl)) rfl)) ?_)
    refine EOps_go rfl rfl (EOp_light rfl (by decide) (L_load rfl (by first | exact ld_bp (by first | rfl | assumption) ty_3 rfl | exact ld_rp ty_3 rfl | exact ld_ep (by first | rfl | assumption) (by first | assumption | exact ints_len _ | exact pairs_len _ | exact bools_len _ | (simp [ints_len, bools_len, pairs_len, part_len, *]; done) | (simp [ints_len, bools_len, pairs_len]; omega) | rfl) (by first | (first | assumption | exact ints_at (by assumption) | exact bools_at (by assumption) | exact pairs_at (by assumption) | exact ints_at (part_at (by assumption)) | exact bools_at (part_at (by assumption)) | exact pairs_at (part_at (by assumption)) | exact List.getElem?_set_self (by omega) | rfl) | ((try simp only [Int.toNat_natCast, Nat.zero_add]); first | assumption | exact ints_at (by assumption) | exact bools_at (by assumption) | exact pairs_at (by assumption) | exact ints_at (part_at (by assumption)) | exact bools_at (part_at (by assumption)) | exact pairs_at (part_at (by assumption)) | exact List.getElem?_set_self (by omega) | rfl)) ty_3 rfl)) ?_)
    refine EOps_go rfl rfl (EOp_light rfl (by decide) (Pure.light (L_field rfl fo_111_1 (by first | rfl | exact ptrOk_of (by first | rfl | assumption) (by first | assumption | exact ints_len _ | exact pairs_len _ | exact bools_len _ | (simp [ints_len, bools_len, pairs_len, part_len, *]; done) | (simp [ints_len, bools_len, pairs_len]; omega) | rfl)) rfl)) ?_)
    refine EOps_go rfl rfl (EOp_light rfl (by decide) (L_load rfl (by first | exact ld_bp (by first | rfl | assumption) ty_3 rfl | exact ld_rp ty_3 rfl | exact ld_ep (by first | rfl | assumption) (by first | assumption | exact ints_len _ | exact pairs_len _ | exact bools_len _ | (simp [ints_len, bools_len, pairs_len, part_len, *]; done) | (simp [ints_len, bools_len, pairs_len]; omega) | rfl) (by first | (first | assumption | exact ints_at (by assumption) | exact bools_at (by assumption) | exact pairs_at (by assumption) | exact ints_at (part_at (by assumption)) | exact bools_at (part_at (by assumption)) | exact pairs_at (part_at (by assumption)) | exact List.getElem?_set_self (by omega) | rfl) | ((try simp only [Int.toNat_natCast, Nat.zero_add]); first | assumption | exact ints_at (by assumption) | exact bools_at (by assumption) | exact pairs_at (by assumption) | exact ints_at (part_at (by assumption)) | exact bools_at (part_at (by assumption)) | exact pairs_at (part_at (by assumption)) | exact List.getElem?_set_self (by omega) | rfl)) ty_3 rfl)) ?_)
    refine EOps_go rfl rfl (EOp_light rfl (by decide) (Pure.light (L_bin rfl rfl rfl rfl)) ?_)
    refine EOps_nil ?_
    refine E_cond rfl (fun hc14 => ?_) (fun hc14 => ?_)
    · refine E_seq ?_
      refine E_region' (L := [0]) rfl ?_
      refine EOps_go rfl rfl (EOp_light rfl (by decide) (Pure.light (L_assign rfl)) ?_)
      refine EOps_nil ?_
      refine E_ret ?_
      refine ⟨_, [], rfl, rfl, bool_eq ?_, rfl⟩
      simp_all [tc]
    · refine E_skip ?_
      refine E_seq ?_
      refine E_region' (L := [0]) rfl ?_
      refine EOps_go rfl rfl (EOp_light rfl (by decide) (Pure.light (L_assign rfl)) ?_)
      refine EOps_nil ?_
      refine E_ret ?_
      refine ⟨_, [], rfl, rfl, bool_eq ?_, rfl⟩
      simp_all [tc]

set_option maxRecDepth 20000 in
set_option maxHeartbeats 2000000 in
theorem c_laws_eqPivotS (xs ys : List (Int × Int)) : EFn Try.prog 80 [.c (.ro (pairs xs)), .c (.ro (pairs ys))] [] (fun r S => r = .c (.sc (.bool (decide (xs = ys)))) ∧ S = []) := by
  refine E_fn Try.func80 rfl (Nat.le_of_ble_eq_true rfl) ?_
  refine E_bound (t := 0) (rows := pairs xs) rfl fun hb => ?_
  rw [pairs_len] at hb
  refine E_seq ?_
  refine E_region' (L := [0]) rfl ?_
  refine EOps_go rfl rfl (EOp_light rfl (by decide) (Pure.light (L_assign rfl)) ?_)
  refine EOps_nil ?_
  refine E_seq ?_
  refine E_seq ?_
  refine E_region' (L := [0, 1, 2, 3, 4]) rfl ?_
  refine EOps_go rfl rfl (EOp_light rfl (by decide) (Pure.light (L_move rfl)) ?_)
  refine EOps_go rfl rfl (EOp_light rfl (by decide) (Pure.light (L_len rfl sl_47 rfl (by first | rfl | exact slOk_of (by first | rfl | assumption) (by first | assumption | exact ints_len _ | exact pairs_len _ | exact bools_len _ | (simp [ints_len, bools_len, pairs_len, part_len, *]; done) | (simp [ints_len, bools_len, pairs_len]; omega) | rfl)))) ?_)
  refine EOps_go rfl rfl (EOp_light rfl (by decide) (Pure.light (L_move rfl)) ?_)
  refine EOps_go rfl rfl (EOp_light rfl (by decide) (Pure.light (L_len rfl sl_47 rfl (by first | rfl | exact slOk_of (by first | rfl | assumption) (by first | assumption | exact ints_len _ | exact pairs_len _ | exact bools_len _ | (simp [ints_len, bools_len, pairs_len, part_len, *]; done) | (simp [ints_len, bools_len, pairs_len]; omega) | rfl)))) ?_)
  refine EOps_go rfl rfl (EOp_light rfl (by decide) (Pure.light (L_bin rfl rfl rfl rfl)) ?_)
  refine EOps_nil ?_
  refine E_cond rfl (fun hc10 => ?_) (fun hc10 => ?_)
  · have hne : xs ≠ ys := fun e => by subst e; simp at hc10
    refine E_seq ?_
    refine E_region' (L := [0]) rfl ?_
    refine EOps_go rfl rfl (EOp_light rfl (by decide) (Pure.light (L_assign rfl)) ?_)
    refine EOps_nil ?_
    refine E_ret ?_
    refine ⟨_, [], rfl, rfl, ?_, rfl⟩
    simp [AV.ren, ren_sc, ren_ro, AC.ren, AC.ren.rens, ix, rv1, E.get, E.ev, E.cv, E.fill', E.fill, E.slotsOf, hne]
  · have hlen : xs.length = ys.length := by simp [pairs_len] at hc10; omega
    refine E_skip ?_
    refine E_seq ?_
    refine E_seq ?_
    refine E_region' (L := [0]) rfl ?_
    refine EOps_go rfl rfl (EOp_light rfl (by decide) (Pure.light (L_assign rfl)) ?_)
    refine EOps_nil ?_
    refine E_block ?_
    refine E_for (α := Nat) [0, 1, 10] (fun k => [(5, .c (.sc (.int .i64 (k))))]) (fun _ => _) (fun k => k ≤ xs.length ∧ xs.take k = ys.take k) (fun k => xs.length - k) (0) (by simp only [E.keepOf, E.get, E.ev, E.cv, E.fill', E.fill, E.slotsOf, Res.sh, AC.sh, AC.sh.shs, AV.sh, E.splice, List.map_cons, List.map_nil, List.cons_append, List.nil_append, List.append_nil, List.length_cons, List.length_nil, List.take_zero, List.drop_zero, List.take_succ_cons, List.drop_succ_cons, List.drop_nil, List.take_nil, List.set_cons_zero, List.set_cons_succ, Nat.zero_add, Nat.add_zero, Nat.reduceAdd, Nat.reduceSub, reduceIte, Nat.reduceEqDiff, E.back, E.backR, E.ix, Res.un, AC.un, AC.un.uns, AV.un, E.un, Option.map_some, Option.map_none, Option.getD_some, List.getElem?_cons_zero, List.getElem?_cons_succ, List.getElem?_nil]; rfl) ?_ (rfl) ⟨.inr rfl, trivial⟩ ?_
    · simp
    rintro k ⟨hk, htk⟩
    refine E_seq ?_
    refine E_seq ?_
    refine E_region' (L := [0, 1, 2, 3]) rfl ?_
    refine EOps_go rfl rfl (EOp_light rfl (by decide) (Pure.light (L_move rfl)) ?_)
    refine EOps_go rfl rfl (EOp_light rfl (by decide) (Pure.light (L_move rfl)) ?_)
    refine EOps_go rfl rfl (EOp_light rfl (by decide) (Pure.light (L_len rfl sl_47 rfl (by first | rfl | exact slOk_of (by first | rfl | assumption) (by first | assumption | exact ints_len _ | exact pairs_len _ | exact bools_len _ | (simp [ints_len, bools_len, pairs_len, part_len, *]; done) | (simp [ints_len, bools_len, pairs_len]; omega) | rfl)))) ?_)
    refine EOps_go rfl rfl (EOp_light rfl (by decide) (Pure.light (L_bin rfl rfl rfl rfl)) ?_)
    refine EOps_nil ?_
    refine E_cond rfl (fun hc14 => ?_) (fun hc14 => ?_)
    · have hc14' : k < (xs).length := by simpa [ints_len, bools_len, pairs_len] using hc14
      obtain ⟨x, hx⟩ : ∃ x, (xs)[k]? = some x := ⟨_, List.getElem?_eq_getElem hc14'⟩
      obtain ⟨y, hy⟩ : ∃ y, ys[k]? = some y := ⟨_, List.getElem?_eq_getElem (hlen ▸ hc14')⟩
      refine E_skip ?_
      refine E_seq ?_
      refine E_block ?_
      refine E_seq ?_
      refine E_drawT mixed ?_
      refine T_light (i := 0) rfl rfl (by kernel_rfl) (by kernel_rfl) (by kernel_rfl) rfl (by decide) (Pure.light (L_move rfl)) rfl ?_
      refine T_light (i := 1) rfl rfl (by kernel_rfl) (by kernel_rfl) (by kernel_rfl) rfl (by decide) (Pure.light (L_move rfl)) rfl ?_
      refine T_light (i := 2) rfl rfl (by kernel_rfl) (by kernel_rfl) (by kernel_rfl) rfl (by decide) (Pure.light (L_index rfl rfl (by first | exact iav_ro sl_47 ty_111 (by omega) (by first | (first | assumption | exact ints_at (by assumption) | exact bools_at (by assumption) | exact pairs_at (by assumption) | exact ints_at (part_at (by assumption)) | exact bools_at (part_at (by assumption)) | exact pairs_at (part_at (by assumption)) | exact List.getElem?_set_self (by omega) | rfl) | ((try simp only [Int.toNat_natCast, Nat.zero_add]); first | assumption | exact ints_at (by assumption) | exact bools_at (by assumption) | exact pairs_at (by assumption) | exact ints_at (part_at (by assumption)) | exact bools_at (part_at (by assumption)) | exact pairs_at (part_at (by assumption)) | exact List.getElem?_set_self (by omega) | rfl)) rfl | exact iav_sl sl_47 ty_111 (by omega) (by first | rfl | assumption) (by first | assumption | exact ints_len _ | exact pairs_len _ | exact bools_len _ | (simp [ints_len, bools_len, pairs_len, part_len, *]; done) | (simp [ints_len, bools_len, pairs_len]; omega) | rfl) (by first | omega | (simp [ints_len, bools_len, pairs_len]; omega))))) rfl ?_
      refine T_light (i := 3) rfl rfl (by kernel_rfl) (by kernel_rfl) (by kernel_rfl) rfl (by decide) (L_load rfl (by first | exact ld_bp (by first | rfl | assumption) ty_111 rfl | exact ld_rp ty_111 rfl | exact ld_ep (by first | rfl | assumption) (by first | assumption | exact ints_len _ | exact pairs_len _ | exact bools_len _ | (simp [ints_len, bools_len, pairs_len, part_len, *]; done) | (simp [ints_len, bools_len, pairs_len]; omega) | rfl) (by first | (first | assumption | exact ints_at (by assumption) | exact bools_at (by assumption) | exact pairs_at (by assumption) | exact ints_at (part_at (by assumption)) | exact bools_at (part_at (by assumption)) | exact pairs_at (part_at (by assumption)) | exact List.getElem?_set_self (by omega) | rfl) | ((try simp only [Int.toNat_natCast, Nat.zero_add]); first | assumption | exact ints_at (by assumption) | exact bools_at (by assumption) | exact pairs_at (by assumption) | exact ints_at (part_at (by assumption)) | exact bools_at (part_at (by assumption)) | exact pairs_at (part_at (by assumption)) | exact List.getElem?_set_self (by omega) | rfl)) ty_111 rfl)) rfl ?_
      refine T_light (i := 4) rfl rfl (by kernel_rfl) (by kernel_rfl) (by kernel_rfl) rfl (by decide) (Pure.light (L_move rfl)) rfl ?_
      refine T_light (i := 5) rfl rfl (by kernel_rfl) (by kernel_rfl) (by kernel_rfl) rfl (by decide) (Pure.light (L_move rfl)) rfl ?_
      refine T_light (i := 6) rfl rfl (by kernel_rfl) (by kernel_rfl) (by kernel_rfl) rfl (by decide) (Pure.light (L_index rfl rfl (by first | exact iav_ro sl_47 ty_111 (by omega) (by first | (first | assumption | exact ints_at (by assumption) | exact bools_at (by assumption) | exact pairs_at (by assumption) | exact ints_at (part_at (by assumption)) | exact bools_at (part_at (by assumption)) | exact pairs_at (part_at (by assumption)) | exact List.getElem?_set_self (by omega) | rfl) | ((try simp only [Int.toNat_natCast, Nat.zero_add]); first | assumption | exact ints_at (by assumption) | exact bools_at (by assumption) | exact pairs_at (by assumption) | exact ints_at (part_at (by assumption)) | exact bools_at (part_at (by assumption)) | exact pairs_at (part_at (by assumption)) | exact List.getElem?_set_self (by omega) | rfl)) rfl | exact iav_sl sl_47 ty_111 (by omega) (by first | rfl | assumption) (by first | assumption | exact ints_len _ | exact pairs_len _ | exact bools_len _ | (simp [ints_len, bools_len, pairs_len, part_len, *]; done) | (simp [ints_len, bools_len, pairs_len]; omega) | rfl) (by first | omega | (simp [ints_len, bools_len, pairs_len]; omega))))) rfl ?_
      refine T_light (i := 7) rfl rfl (by kernel_rfl) (by kernel_rfl) (by kernel_rfl) rfl (by decide) (L_load rfl (by first | exact ld_bp (by first | rfl | assumption) ty_111 rfl | exact ld_rp ty_111 rfl | exact ld_ep (by first | rfl | assumption) (by first | assumption | exact ints_len _ | exact pairs_len _ | exact bools_len _ | (simp [ints_len, bools_len, pairs_len, part_len, *]; done) | (simp [ints_len, bools_len, pairs_len]; omega) | rfl) (by first | (first | assumption | exact ints_at (by assumption) | exact bools_at (by assumption) | exact pairs_at (by assumption) | exact ints_at (part_at (by assumption)) | exact bools_at (part_at (by assumption)) | exact pairs_at (part_at (by assumption)) | exact List.getElem?_set_self (by omega) | rfl) | ((try simp only [Int.toNat_natCast, Nat.zero_add]); first | assumption | exact ints_at (by assumption) | exact bools_at (by assumption) | exact pairs_at (by assumption) | exact ints_at (part_at (by assumption)) | exact bools_at (part_at (by assumption)) | exact pairs_at (part_at (by assumption)) | exact List.getElem?_set_self (by omega) | rfl)) ty_111 rfl)) rfl ?_
      refine T_heavy (i := 8) rfl rfl (by kernel_rfl) rfl (by decide) rfl (V_pcall rfl rfl ca_112 (c_laws_eqPivot x y) (by refine cons_eq ?_ (cons_eq ?_ (rfl)) <;> first | (refine lend_whole rfl ?_; first | assumption | exact ints_len _ | exact pairs_len _ | exact bools_len _ | (simp [ints_len, bools_len, pairs_len, part_len, *]; done) | (simp [ints_len, bools_len, pairs_len]; omega) | rfl) | (refine agg_eq ?_; repeat' (first | (refine lendC_whole rfl ?_; first | assumption | exact ints_len _ | exact pairs_len _ | exact bools_len _ | (simp [ints_len, bools_len, pairs_len, part_len, *]; done) | (simp [ints_len, bools_len, pairs_len]; omega) | rfl) | refine cons_eq ?_ ?_ | rfl)) | rfl | simp [E.lend, E.lendC, E.ev, E.cv, E.get, E.fill', E.fill, AV.sh, AC.sh, Res.sh, ints_len, *]) (by rintro r S ⟨rfl, rfl⟩; exact ⟨rfl, rfl⟩) ?_)
      rintro r S ⟨rfl, rfl⟩
      refine T_light (i := 9) rfl rfl (by kernel_rfl) (by kernel_rfl) (by kernel_rfl) rfl (by decide) (Pure.light (L_not rfl rfl)) rfl ?_
      refine T_done (by kernel_rfl) ?_
      refine E_cond rfl (fun hc26 => ?_) (fun hc26 => ?_)
      · have hne : xs ≠ ys := fun e => by subst e; rw [hx] at hy; cases hy; simp at hc26
        refine E_seq ?_
        refine E_region' (L := [0]) rfl ?_
        refine EOps_go rfl rfl (EOp_light rfl (by decide) (Pure.light (L_assign rfl)) ?_)
        refine EOps_nil ?_
        refine E_ret ?_
        refine ⟨_, [], rfl, rfl, ?_, rfl⟩
        simp [AV.ren, ren_sc, ren_ro, AC.ren, AC.ren.rens, ix, rv1, E.get, E.ev, E.cv, E.fill', E.fill, E.slotsOf, hne]
      · have hxy : x = y := by simpa using hc26
        refine E_skip ?_
        refine E_region' (L := [0, 1, 2]) rfl ?_
        refine EOps_go rfl rfl (EOp_light rfl (by decide) (Pure.light (L_move rfl)) ?_)
        refine EOps_go rfl rfl (EOp_light rfl (by decide) (Pure.light (by first | exact L_add rfl rfl rfl (by constructor <;> first | omega | (dsimp only; omega) | (simp [ints_len, pairs_len, bools_len]; omega)) | exact L_bin rfl rfl rfl rfl)) ?_)
        refine EOps_go rfl rfl (EOp_light rfl (by decide) (Pure.light (L_assign rfl)) ?_)
        refine EOps_nil ?_
        refine ⟨k + 1, ?_, ?_, rfl, ⟨.inr rfl, trivial⟩, ⟨.inr rfl, .inr rfl, .inr rfl, trivial⟩⟩
        · first | omega | (dsimp only; omega) | (simp; omega)
        · exact ⟨by omega, by rw [List.take_add_one, List.take_add_one, htk, hx, hy, hxy]⟩
    · have hk' : xs.length ≤ k := by simpa [pairs_len] using hc14
      have heq : xs = ys := by rw [List.take_of_length_le hk', List.take_of_length_le (by omega)] at htk; exact htk
      refine E_exit ?_
      refine E_seq ?_
      refine E_region' (L := [0]) rfl ?_
      refine EOps_go rfl rfl (EOp_light rfl (by decide) (Pure.light (L_assign rfl)) ?_)
      refine EOps_nil ?_
      refine E_ret ?_
      refine ⟨_, [], rfl, rfl, ?_, rfl⟩
      simp [AV.ren, ren_sc, ren_ro, AC.ren, AC.ren.rens, ix, rv1, E.get, E.ev, E.cv, E.fill', E.fill, E.slotsOf, heq]

set_option maxRecDepth 20000 in
set_option maxHeartbeats 2000000 in
theorem c_spec_EqualCrackers (a b : Crk) : EFn Try.prog 61 [.agg (crkC a), .agg (crkC b)] [] (fun r S => r = .c (.sc (.bool (decide (a = b)))) ∧ S = []) := by
  refine E_fn Try.func61 rfl (Nat.le_of_ble_eq_true rfl) ?_
  obtain ⟨a1, a2, a3⟩ := a
  obtain ⟨b1, b2, b3⟩ := b
  refine E_seq ?_
  refine E_region' (L := [0, 1, 2]) rfl ?_
  refine EOps_go rfl rfl (EOp_box rfl rfl (by decide) rfl ?_)
  refine EOps_go rfl rfl (EOp_box rfl rfl (by decide) rfl ?_)
  refine EOps_go rfl rfl (EOp_light rfl (by decide) (Pure.light (L_assign rfl)) ?_)
  refine EOps_nil ?_
  refine E_seq ?_
  refine E_region' (L := [0, 1, 2, 3, 4, 5, 6, 7, 8, 9, 10, 11, 12, 13, 14, 15, 16, 17, 18, 19]) rfl ?_
  refine EOps_go rfl rfl (EOp_light rfl (by decide) (Pure.light (L_field rfl fo_49_0 (by first | rfl | exact ptrOk_of (by first | rfl | assumption) (by first | assumption | exact ints_len _ | exact pairs_len _ | exact bools_len _ | (simp [ints_len, bools_len, pairs_len, part_len, *]; done) | (simp [ints_len, bools_len, pairs_len]; omega) | rfl)) rfl)) ?_)
  refine EOps_go rfl rfl (EOp_light rfl (by decide) (L_load rfl (by first | exact ld_bp (by first | rfl | assumption) ty_35 rfl | exact ld_rp ty_35 rfl | exact ld_ep (by first | rfl | assumption) (by first | assumption | exact ints_len _ | exact pairs_len _ | exact bools_len _ | (simp [ints_len, bools_len, pairs_len, part_len, *]; done) | (simp [ints_len, bools_len, pairs_len]; omega) | rfl) (by first | (first | assumption | exact ints_at (by assumption) | exact bools_at (by assumption) | exact pairs_at (by assumption) | exact ints_at (part_at (by assumption)) | exact bools_at (part_at (by assumption)) | exact pairs_at (part_at (by assumption)) | exact List.getElem?_set_self (by omega) | rfl) | ((try simp only [Int.toNat_natCast, Nat.zero_add]); first | assumption | exact ints_at (by assumption) | exact bools_at (by assumption) | exact pairs_at (by assumption) | exact ints_at (part_at (by assumption)) | exact bools_at (part_at (by assumption)) | exact pairs_at (part_at (by assumption)) | exact List.getElem?_set_self (by omega) | rfl)) ty_35 rfl)) ?_)
  refine EOps_go rfl rfl (EOp_light rfl (by decide) (Pure.light (L_field rfl fo_49_0 (by first | rfl | exact ptrOk_of (by first | rfl | assumption) (by first | assumption | exact ints_len _ | exact pairs_len _ | exact bools_len _ | (simp [ints_len, bools_len, pairs_len, part_len, *]; done) | (simp [ints_len, bools_len, pairs_len]; omega) | rfl)) rfl)) ?_)
  refine EOps_go rfl rfl (EOp_light rfl (by decide) (L_load rfl (by first | exact ld_bp (by first | rfl | assumption) ty_35 rfl | exact ld_rp ty_35 rfl | exact ld_ep (by first | rfl | assumption) (by first | assumption | exact ints_len _ | exact pairs_len _ | exact bools_len _ | (simp [ints_len, bools_len, pairs_len, part_len, *]; done) | (simp [ints_len, bools_len, pairs_len]; omega) | rfl) (by first | (first | assumption | exact ints_at (by assumption) | exact bools_at (by assumption) | exact pairs_at (by assumption) | exact ints_at (part_at (by assumption)) | exact bools_at (part_at (by assumption)) | exact pairs_at (part_at (by assumption)) | exact List.getElem?_set_self (by omega) | rfl) | ((try simp only [Int.toNat_natCast, Nat.zero_add]); first | assumption | exact ints_at (by assumption) | exact bools_at (by assumption) | exact pairs_at (by assumption) | exact ints_at (part_at (by assumption)) | exact bools_at (part_at (by assumption)) | exact pairs_at (part_at (by assumption)) | exact List.getElem?_set_self (by omega) | rfl)) ty_35 rfl)) ?_)
  refine EOps_go rfl rfl (Heavy.op (H_pcall1 rfl rfl (by decide) rfl ca_62 (c_spec_l4Ints a1 b1) (by refine cons_eq ?_ (cons_eq ?_ (rfl)) <;> first | (refine lend_whole rfl ?_; first | assumption | exact ints_len _ | exact pairs_len _ | exact bools_len _ | (simp [ints_len, bools_len, pairs_len, part_len, *]; done) | (simp [ints_len, bools_len, pairs_len]; omega) | rfl) | (refine agg_eq ?_; repeat' (first | (refine lendC_whole rfl ?_; first | assumption | exact ints_len _ | exact pairs_len _ | exact bools_len _ | (simp [ints_len, bools_len, pairs_len, part_len, *]; done) | (simp [ints_len, bools_len, pairs_len]; omega) | rfl) | refine cons_eq ?_ ?_ | rfl)) | rfl | simp [E.lend, E.lendC, E.ev, E.cv, E.get, E.fill', E.fill, AV.sh, AC.sh, Res.sh, ints_len, *]) (by rintro r S ⟨rfl, rfl⟩; exact ⟨rfl, rfl⟩) ?_))
  rintro r S ⟨rfl, rfl⟩
  refine EOps_go rfl rfl (EOp_light rfl (by decide) (Pure.light (L_move rfl)) ?_)
  refine EOps_split 10 (b := _) rfl (fun hg10 => ?_) (fun hg10 => ?_)
  · refine EOps_go rfl rfl (EOp_light rfl (by decide) (Pure.light (L_field rfl fo_49_1 (by first | rfl | exact ptrOk_of (by first | rfl | assumption) (by first | assumption | exact ints_len _ | exact pairs_len _ | exact bools_len _ | (simp [ints_len, bools_len, pairs_len, part_len, *]; done) | (simp [ints_len, bools_len, pairs_len]; omega) | rfl)) rfl)) ?_)
    refine EOps_go rfl rfl (EOp_light rfl (by decide) (L_load rfl (by first | exact ld_bp (by first | rfl | assumption) ty_35 rfl | exact ld_rp ty_35 rfl | exact ld_ep (by first | rfl | assumption) (by first | assumption | exact ints_len _ | exact pairs_len _ | exact bools_len _ | (simp [ints_len, bools_len, pairs_len, part_len, *]; done) | (simp [ints_len, bools_len, pairs_len]; omega) | rfl) (by first | (first | assumption | exact ints_at (by assumption) | exact bools_at (by assumption) | exact pairs_at (by assumption) | exact ints_at (part_at (by assumption)) | exact bools_at (part_at (by assumption)) | exact pairs_at (part_at (by assumption)) | exact List.getElem?_set_self (by omega) | rfl) | ((try simp only [Int.toNat_natCast, Nat.zero_add]); first | assumption | exact ints_at (by assumption) | exact bools_at (by assumption) | exact pairs_at (by assumption) | exact ints_at (part_at (by assumption)) | exact bools_at (part_at (by assumption)) | exact pairs_at (part_at (by assumption)) | exact List.getElem?_set_self (by omega) | rfl)) ty_35 rfl)) ?_)
    refine EOps_go rfl rfl (EOp_light rfl (by decide) (Pure.light (L_field rfl fo_49_1 (by first | rfl | exact ptrOk_of (by first | rfl | assumption) (by first | assumption | exact ints_len _ | exact pairs_len _ | exact bools_len _ | (simp [ints_len, bools_len, pairs_len, part_len, *]; done) | (simp [ints_len, bools_len, pairs_len]; omega) | rfl)) rfl)) ?_)
    refine EOps_go rfl rfl (EOp_light rfl (by decide) (L_load rfl (by first | exact ld_bp (by first | rfl | assumption) ty_35 rfl | exact ld_rp ty_35 rfl | exact ld_ep (by first | rfl | assumption) (by first | assumption | exact ints_len _ | exact pairs_len _ | exact bools_len _ | (simp [ints_len, bools_len, pairs_len, part_len, *]; done) | (simp [ints_len, bools_len, pairs_len]; omega) | rfl) (by first | (first | assumption | exact ints_at (by assumption) | exact bools_at (by assumption) | exact pairs_at (by assumption) | exact ints_at (part_at (by assumption)) | exact bools_at (part_at (by assumption)) | exact pairs_at (part_at (by assumption)) | exact List.getElem?_set_self (by omega) | rfl) | ((try simp only [Int.toNat_natCast, Nat.zero_add]); first | assumption | exact ints_at (by assumption) | exact bools_at (by assumption) | exact pairs_at (by assumption) | exact ints_at (part_at (by assumption)) | exact bools_at (part_at (by assumption)) | exact pairs_at (part_at (by assumption)) | exact List.getElem?_set_self (by omega) | rfl)) ty_35 rfl)) ?_)
    refine EOps_go rfl rfl (Heavy.op (H_pcall1 rfl rfl (by decide) rfl ca_62 (c_spec_l4Ints a2 b2) (by refine cons_eq ?_ (cons_eq ?_ (rfl)) <;> first | (refine lend_whole rfl ?_; first | assumption | exact ints_len _ | exact pairs_len _ | exact bools_len _ | (simp [ints_len, bools_len, pairs_len, part_len, *]; done) | (simp [ints_len, bools_len, pairs_len]; omega) | rfl) | (refine agg_eq ?_; repeat' (first | (refine lendC_whole rfl ?_; first | assumption | exact ints_len _ | exact pairs_len _ | exact bools_len _ | (simp [ints_len, bools_len, pairs_len, part_len, *]; done) | (simp [ints_len, bools_len, pairs_len]; omega) | rfl) | refine cons_eq ?_ ?_ | rfl)) | rfl | simp [E.lend, E.lendC, E.ev, E.cv, E.get, E.fill', E.fill, AV.sh, AC.sh, Res.sh, ints_len, *]) (by rintro r S ⟨rfl, rfl⟩; exact ⟨rfl, rfl⟩) ?_))
    rintro r S ⟨rfl, rfl⟩
    refine EOps_go rfl rfl (EOp_light rfl (by decide) (Pure.light (L_pick rfl rfl)) ?_)
    refine EOps_go rfl rfl (EOp_light rfl (by decide) (Pure.light (L_move rfl)) ?_)
    refine EOps_split 17 (b := _) rfl (fun hg17 => ?_) (fun hg17 => ?_)
    · refine EOps_go rfl rfl (EOp_light rfl (by decide) (Pure.light (L_field rfl fo_49_2 (by first | rfl | exact ptrOk_of (by first | rfl | assumption) (by first | assumption | exact ints_len _ | exact pairs_len _ | exact bools_len _ | (simp [ints_len, bools_len, pairs_len, part_len, *]; done) | (simp [ints_len, bools_len, pairs_len]; omega) | rfl)) rfl)) ?_)
      refine EOps_go rfl rfl (EOp_light rfl (by decide) (L_load rfl (by first | exact ld_bp (by first | rfl | assumption) ty_47 rfl | exact ld_rp ty_47 rfl | exact ld_ep (by first | rfl | assumption) (by first | assumption | exact ints_len _ | exact pairs_len _ | exact bools_len _ | (simp [ints_len, bools_len, pairs_len, part_len, *]; done) | (simp [ints_len, bools_len, pairs_len]; omega) | rfl) (by first | (first | assumption | exact ints_at (by assumption) | exact bools_at (by assumption) | exact pairs_at (by assumption) | exact ints_at (part_at (by assumption)) | exact bools_at (part_at (by assumption)) | exact pairs_at (part_at (by assumption)) | exact List.getElem?_set_self (by omega) | rfl) | ((try simp only [Int.toNat_natCast, Nat.zero_add]); first | assumption | exact ints_at (by assumption) | exact bools_at (by assumption) | exact pairs_at (by assumption) | exact ints_at (part_at (by assumption)) | exact bools_at (part_at (by assumption)) | exact pairs_at (part_at (by assumption)) | exact List.getElem?_set_self (by omega) | rfl)) ty_47 rfl)) ?_)
      refine EOps_go rfl rfl (EOp_light rfl (by decide) (Pure.light (L_field rfl fo_49_2 (by first | rfl | exact ptrOk_of (by first | rfl | assumption) (by first | assumption | exact ints_len _ | exact pairs_len _ | exact bools_len _ | (simp [ints_len, bools_len, pairs_len, part_len, *]; done) | (simp [ints_len, bools_len, pairs_len]; omega) | rfl)) rfl)) ?_)
      refine EOps_go rfl rfl (EOp_light rfl (by decide) (L_load rfl (by first | exact ld_bp (by first | rfl | assumption) ty_47 rfl | exact ld_rp ty_47 rfl | exact ld_ep (by first | rfl | assumption) (by first | assumption | exact ints_len _ | exact pairs_len _ | exact bools_len _ | (simp [ints_len, bools_len, pairs_len, part_len, *]; done) | (simp [ints_len, bools_len, pairs_len]; omega) | rfl) (by first | (first | assumption | exact ints_at (by assumption) | exact bools_at (by assumption) | exact pairs_at (by assumption) | exact ints_at (part_at (by assumption)) | exact bools_at (part_at (by assumption)) | exact pairs_at (part_at (by assumption)) | exact List.getElem?_set_self (by omega) | rfl) | ((try simp only [Int.toNat_natCast, Nat.zero_add]); first | assumption | exact ints_at (by assumption) | exact bools_at (by assumption) | exact pairs_at (by assumption) | exact ints_at (part_at (by assumption)) | exact bools_at (part_at (by assumption)) | exact pairs_at (part_at (by assumption)) | exact List.getElem?_set_self (by omega) | rfl)) ty_47 rfl)) ?_)
      refine EOps_go rfl rfl (Heavy.op (H_pcall1 rfl rfl (by decide) rfl ca_100 (c_spec_l4Same a3 b3) (by refine cons_eq ?_ (cons_eq ?_ (rfl)) <;> first | (refine lend_whole rfl ?_; first | assumption | exact ints_len _ | exact pairs_len _ | exact bools_len _ | (simp [ints_len, bools_len, pairs_len, part_len, *]; done) | (simp [ints_len, bools_len, pairs_len]; omega) | rfl) | (refine agg_eq ?_; repeat' (first | (refine lendC_whole rfl ?_; first | assumption | exact ints_len _ | exact pairs_len _ | exact bools_len _ | (simp [ints_len, bools_len, pairs_len, part_len, *]; done) | (simp [ints_len, bools_len, pairs_len]; omega) | rfl) | refine cons_eq ?_ ?_ | rfl)) | rfl | simp [E.lend, E.lendC, E.ev, E.cv, E.get, E.fill', E.fill, AV.sh, AC.sh, Res.sh, ints_len, *]) (by rintro r S ⟨rfl, rfl⟩; exact ⟨rfl, rfl⟩) ?_))
      rintro r S ⟨rfl, rfl⟩
      refine EOps_go rfl rfl (EOp_light rfl (by decide) (Pure.light (L_pick rfl rfl)) ?_)
      refine EOps_go rfl rfl (EOp_light rfl (by decide) (Pure.light (L_assign rfl)) ?_)
      refine EOps_nil ?_
      refine E_ret ?_
      refine ⟨_, [], rfl, rfl, bool_eq ?_, rfl⟩
      simp_all
    · refine EOps_skip1 rfl rfl rfl (by decide) ?_
      refine EOps_skip1 rfl rfl rfl (by decide) ?_
      refine EOps_skip1 rfl rfl rfl (by decide) ?_
      refine EOps_skip1 rfl rfl rfl (by decide) ?_
      refine EOps_skip1 rfl rfl rfl (by decide) ?_
      refine EOps_go rfl rfl (EOp_light rfl (by decide) (Pure.light (L_pick rfl rfl)) ?_)
      refine EOps_go rfl rfl (EOp_light rfl (by decide) (Pure.light (L_assign rfl)) ?_)
      refine EOps_nil ?_
      refine E_ret ?_
      refine ⟨_, [], rfl, rfl, bool_eq ?_, rfl⟩
      simp_all
  · refine EOps_skip1 rfl rfl rfl (by decide) ?_
    refine EOps_skip1 rfl rfl rfl (by decide) ?_
    refine EOps_skip1 rfl rfl rfl (by decide) ?_
    refine EOps_skip1 rfl rfl rfl (by decide) ?_
    refine EOps_skip1 rfl rfl rfl (by decide) ?_
    refine EOps_go rfl rfl (EOp_light rfl (by decide) (Pure.light (L_pick rfl rfl)) ?_)
    refine EOps_go rfl rfl (EOp_light rfl (by decide) (Pure.light (L_move rfl)) ?_)
    refine EOps_skip1 rfl rfl rfl (by decide) ?_
    refine EOps_skip1 rfl rfl rfl (by decide) ?_
    refine EOps_skip1 rfl rfl rfl (by decide) ?_
    refine EOps_skip1 rfl rfl rfl (by decide) ?_
    refine EOps_skip1 rfl rfl rfl (by decide) ?_
    refine EOps_go rfl rfl (EOp_light rfl (by decide) (Pure.light (L_pick rfl rfl)) ?_)
    refine EOps_go rfl rfl (EOp_light rfl (by decide) (Pure.light (L_assign rfl)) ?_)
    refine EOps_nil ?_
    refine E_ret ?_
    refine ⟨_, [], rfl, rfl, bool_eq ?_, rfl⟩
    simp_all

set_option maxRecDepth 20000 in
set_option maxHeartbeats 2000000 in
theorem c_impl_EqualCrackers (a b : Crk) : EFn Try.prog 63 [.agg (crkC a), .agg (crkC b)] [] (fun r S => r = .c (.sc (.bool (decide (a = b)))) ∧ S = []) := by
  refine E_fn Try.func63 rfl (Nat.le_of_ble_eq_true rfl) ?_
  obtain ⟨a1, a2, a3⟩ := a
  obtain ⟨b1, b2, b3⟩ := b
  refine E_seq ?_
  refine E_region' (L := [0, 1, 2]) rfl ?_
  refine EOps_go rfl rfl (EOp_box rfl rfl (by decide) rfl ?_)
  refine EOps_go rfl rfl (EOp_box rfl rfl (by decide) rfl ?_)
  refine EOps_go rfl rfl (EOp_light rfl (by decide) (Pure.light (L_assign rfl)) ?_)
  refine EOps_nil ?_
  refine E_seq ?_
  refine E_region' (L := [0, 1, 2, 3, 4, 5, 6, 7, 8, 9, 10, 11, 12, 13, 14, 15, 16, 17, 18, 19]) rfl ?_
  refine EOps_go rfl rfl (EOp_light rfl (by decide) (Pure.light (L_field rfl fo_49_0 (by first | rfl | exact ptrOk_of (by first | rfl | assumption) (by first | assumption | exact ints_len _ | exact pairs_len _ | exact bools_len _ | (simp [ints_len, bools_len, pairs_len, part_len, *]; done) | (simp [ints_len, bools_len, pairs_len]; omega) | rfl)) rfl)) ?_)
  refine EOps_go rfl rfl (EOp_light rfl (by decide) (L_load rfl (by first | exact ld_bp (by first | rfl | assumption) ty_35 rfl | exact ld_rp ty_35 rfl | exact ld_ep (by first | rfl | assumption) (by first | assumption | exact ints_len _ | exact pairs_len _ | exact bools_len _ | (simp [ints_len, bools_len, pairs_len, part_len, *]; done) | (simp [ints_len, bools_len, pairs_len]; omega) | rfl) (by first | (first | assumption | exact ints_at (by assumption) | exact bools_at (by assumption) | exact pairs_at (by assumption) | exact ints_at (part_at (by assumption)) | exact bools_at (part_at (by assumption)) | exact pairs_at (part_at (by assumption)) | exact List.getElem?_set_self (by omega) | rfl) | ((try simp only [Int.toNat_natCast, Nat.zero_add]); first | assumption | exact ints_at (by assumption) | exact bools_at (by assumption) | exact pairs_at (by assumption) | exact ints_at (part_at (by assumption)) | exact bools_at (part_at (by assumption)) | exact pairs_at (part_at (by assumption)) | exact List.getElem?_set_self (by omega) | rfl)) ty_35 rfl)) ?_)
  refine EOps_go rfl rfl (EOp_light rfl (by decide) (Pure.light (L_field rfl fo_49_0 (by first | rfl | exact ptrOk_of (by first | rfl | assumption) (by first | assumption | exact ints_len _ | exact pairs_len _ | exact bools_len _ | (simp [ints_len, bools_len, pairs_len, part_len, *]; done) | (simp [ints_len, bools_len, pairs_len]; omega) | rfl)) rfl)) ?_)
  refine EOps_go rfl rfl (EOp_light rfl (by decide) (L_load rfl (by first | exact ld_bp (by first | rfl | assumption) ty_35 rfl | exact ld_rp ty_35 rfl | exact ld_ep (by first | rfl | assumption) (by first | assumption | exact ints_len _ | exact pairs_len _ | exact bools_len _ | (simp [ints_len, bools_len, pairs_len, part_len, *]; done) | (simp [ints_len, bools_len, pairs_len]; omega) | rfl) (by first | (first | assumption | exact ints_at (by assumption) | exact bools_at (by assumption) | exact pairs_at (by assumption) | exact ints_at (part_at (by assumption)) | exact bools_at (part_at (by assumption)) | exact pairs_at (part_at (by assumption)) | exact List.getElem?_set_self (by omega) | rfl) | ((try simp only [Int.toNat_natCast, Nat.zero_add]); first | assumption | exact ints_at (by assumption) | exact bools_at (by assumption) | exact pairs_at (by assumption) | exact ints_at (part_at (by assumption)) | exact bools_at (part_at (by assumption)) | exact pairs_at (part_at (by assumption)) | exact List.getElem?_set_self (by omega) | rfl)) ty_35 rfl)) ?_)
  refine EOps_go rfl rfl (Heavy.op (H_pcall1 rfl rfl (by decide) rfl ca_64 (c_slices_Equal___int_int_ a1 b1) (by refine cons_eq ?_ (cons_eq ?_ (rfl)) <;> first | (refine lend_whole rfl ?_; first | assumption | exact ints_len _ | exact pairs_len _ | exact bools_len _ | (simp [ints_len, bools_len, pairs_len, part_len, *]; done) | (simp [ints_len, bools_len, pairs_len]; omega) | rfl) | (refine agg_eq ?_; repeat' (first | (refine lendC_whole rfl ?_; first | assumption | exact ints_len _ | exact pairs_len _ | exact bools_len _ | (simp [ints_len, bools_len, pairs_len, part_len, *]; done) | (simp [ints_len, bools_len, pairs_len]; omega) | rfl) | refine cons_eq ?_ ?_ | rfl)) | rfl | simp [E.lend, E.lendC, E.ev, E.cv, E.get, E.fill', E.fill, AV.sh, AC.sh, Res.sh, ints_len, *]) (by rintro r S ⟨rfl, rfl⟩; exact ⟨rfl, rfl⟩) ?_))
  rintro r S ⟨rfl, rfl⟩
  refine EOps_go rfl rfl (EOp_light rfl (by decide) (Pure.light (L_move rfl)) ?_)
  refine EOps_split 10 (b := _) rfl (fun hg10 => ?_) (fun hg10 => ?_)
  · refine EOps_go rfl rfl (EOp_light rfl (by decide) (Pure.light (L_field rfl fo_49_1 (by first | rfl | exact ptrOk_of (by first | rfl | assumption) (by first | assumption | exact ints_len _ | exact pairs_len _ | exact bools_len _ | (simp [ints_len, bools_len, pairs_len, part_len, *]; done) | (simp [ints_len, bools_len, pairs_len]; omega) | rfl)) rfl)) ?_)
    refine EOps_go rfl rfl (EOp_light rfl (by decide) (L_load rfl (by first | exact ld_bp (by first | rfl | assumption) ty_35 rfl | exact ld_rp ty_35 rfl | exact ld_ep (by first | rfl | assumption) (by first | assumption | exact ints_len _ | exact pairs_len _ | exact bools_len _ | (simp [ints_len, bools_len, pairs_len, part_len, *]; done) | (simp [ints_len, bools_len, pairs_len]; omega) | rfl) (by first | (first | assumption | exact ints_at (by assumption) | exact bools_at (by assumption) | exact pairs_at (by assumption) | exact ints_at (part_at (by assumption)) | exact bools_at (part_at (by assumption)) | exact pairs_at (part_at (by assumption)) | exact List.getElem?_set_self (by omega) | rfl) | ((try simp only [Int.toNat_natCast, Nat.zero_add]); first | assumption | exact ints_at (by assumption) | exact bools_at (by assumption) | exact pairs_at (by assumption) | exact ints_at (part_at (by assumption)) | exact bools_at (part_at (by assumption)) | exact pairs_at (part_at (by assumption)) | exact List.getElem?_set_self (by omega) | rfl)) ty_35 rfl)) ?_)
    refine EOps_go rfl rfl (EOp_light rfl (by decide) (Pure.light (L_field rfl fo_49_1 (by first | rfl | exact ptrOk_of (by first | rfl | assumption) (by first | assumption | exact ints_len _ | exact pairs_len _ | exact bools_len _ | (simp [ints_len, bools_len, pairs_len, part_len, *]; done) | (simp [ints_len, bools_len, pairs_len]; omega) | rfl)) rfl)) ?_)
    refine EOps_go rfl rfl (EOp_light rfl (by decide) (L_load rfl (by first | exact ld_bp (by first | rfl | assumption) ty_35 rfl | exact ld_rp ty_35 rfl | exact ld_ep (by first | rfl | assumption) (by first | assumption | exact ints_len _ | exact pairs_len _ | exact bools_len _ | (simp [ints_len, bools_len, pairs_len, part_len, *]; done) | (simp [ints_len, bools_len, pairs_len]; omega) | rfl) (by first | (first | assumption | exact ints_at (by assumption) | exact bools_at (by assumption) | exact pairs_at (by assumption) | exact ints_at (part_at (by assumption)) | exact bools_at (part_at (by assumption)) | exact pairs_at (part_at (by assumption)) | exact List.getElem?_set_self (by omega) | rfl) | ((try simp only [Int.toNat_natCast, Nat.zero_add]); first | assumption | exact ints_at (by assumption) | exact bools_at (by assumption) | exact pairs_at (by assumption) | exact ints_at (part_at (by assumption)) | exact bools_at (part_at (by assumption)) | exact pairs_at (part_at (by assumption)) | exact List.getElem?_set_self (by omega) | rfl)) ty_35 rfl)) ?_)
    refine EOps_go rfl rfl (Heavy.op (H_pcall1 rfl rfl (by decide) rfl ca_64 (c_slices_Equal___int_int_ a2 b2) (by refine cons_eq ?_ (cons_eq ?_ (rfl)) <;> first | (refine lend_whole rfl ?_; first | assumption | exact ints_len _ | exact pairs_len _ | exact bools_len _ | (simp [ints_len, bools_len, pairs_len, part_len, *]; done) | (simp [ints_len, bools_len, pairs_len]; omega) | rfl) | (refine agg_eq ?_; repeat' (first | (refine lendC_whole rfl ?_; first | assumption | exact ints_len _ | exact pairs_len _ | exact bools_len _ | (simp [ints_len, bools_len, pairs_len, part_len, *]; done) | (simp [ints_len, bools_len, pairs_len]; omega) | rfl) | refine cons_eq ?_ ?_ | rfl)) | rfl | simp [E.lend, E.lendC, E.ev, E.cv, E.get, E.fill', E.fill, AV.sh, AC.sh, Res.sh, ints_len, *]) (by rintro r S ⟨rfl, rfl⟩; exact ⟨rfl, rfl⟩) ?_))
    rintro r S ⟨rfl, rfl⟩
    refine EOps_go rfl rfl (EOp_light rfl (by decide) (Pure.light (L_pick rfl rfl)) ?_)
    refine EOps_go rfl rfl (EOp_light rfl (by decide) (Pure.light (L_move rfl)) ?_)
    refine EOps_split 17 (b := _) rfl (fun hg17 => ?_) (fun hg17 => ?_)
    · refine EOps_go rfl rfl (EOp_light rfl (by decide) (Pure.light (L_field rfl fo_49_2 (by first | rfl | exact ptrOk_of (by first | rfl | assumption) (by first | assumption | exact ints_len _ | exact pairs_len _ | exact bools_len _ | (simp [ints_len, bools_len, pairs_len, part_len, *]; done) | (simp [ints_len, bools_len, pairs_len]; omega) | rfl)) rfl)) ?_)
      refine EOps_go rfl rfl (EOp_light rfl (by decide) (L_load rfl (by first | exact ld_bp (by first | rfl | assumption) ty_47 rfl | exact ld_rp ty_47 rfl | exact ld_ep (by first | rfl | assumption) (by first | assumption | exact ints_len _ | exact pairs_len _ | exact bools_len _ | (simp [ints_len, bools_len, pairs_len, part_len, *]; done) | (simp [ints_len, bools_len, pairs_len]; omega) | rfl) (by first | (first | assumption | exact ints_at (by assumption) | exact bools_at (by assumption) | exact pairs_at (by assumption) | exact ints_at (part_at (by assumption)) | exact bools_at (part_at (by assumption)) | exact pairs_at (part_at (by assumption)) | exact List.getElem?_set_self (by omega) | rfl) | ((try simp only [Int.toNat_natCast, Nat.zero_add]); first | assumption | exact ints_at (by assumption) | exact bools_at (by assumption) | exact pairs_at (by assumption) | exact ints_at (part_at (by assumption)) | exact bools_at (part_at (by assumption)) | exact pairs_at (part_at (by assumption)) | exact List.getElem?_set_self (by omega) | rfl)) ty_47 rfl)) ?_)
      refine EOps_go rfl rfl (EOp_light rfl (by decide) (Pure.light (L_field rfl fo_49_2 (by first | rfl | exact ptrOk_of (by first | rfl | assumption) (by first | assumption | exact ints_len _ | exact pairs_len _ | exact bools_len _ | (simp [ints_len, bools_len, pairs_len, part_len, *]; done) | (simp [ints_len, bools_len, pairs_len]; omega) | rfl)) rfl)) ?_)
      refine EOps_go rfl rfl (EOp_light rfl (by decide) (L_load rfl (by first | exact ld_bp (by first | rfl | assumption) ty_47 rfl | exact ld_rp ty_47 rfl | exact ld_ep (by first | rfl | assumption) (by first | assumption | exact ints_len _ | exact pairs_len _ | exact bools_len _ | (simp [ints_len, bools_len, pairs_len, part_len, *]; done) | (simp [ints_len, bools_len, pairs_len]; omega) | rfl) (by first | (first | assumption | exact ints_at (by assumption) | exact bools_at (by assumption) | exact pairs_at (by assumption) | exact ints_at (part_at (by assumption)) | exact bools_at (part_at (by assumption)) | exact pairs_at (part_at (by assumption)) | exact List.getElem?_set_self (by omega) | rfl) | ((try simp only [Int.toNat_natCast, Nat.zero_add]); first | assumption | exact ints_at (by assumption) | exact bools_at (by assumption) | exact pairs_at (by assumption) | exact ints_at (part_at (by assumption)) | exact bools_at (part_at (by assumption)) | exact pairs_at (part_at (by assumption)) | exact List.getElem?_set_self (by omega) | rfl)) ty_47 rfl)) ?_)
      refine EOps_go rfl rfl (Heavy.op (H_pcall1 rfl rfl (by decide) rfl ca_101 (c_slices_Equal___impl_Pivot_impl_Pivot_ a3 b3) (by refine cons_eq ?_ (cons_eq ?_ (rfl)) <;> first | (refine lend_whole rfl ?_; first | assumption | exact ints_len _ | exact pairs_len _ | exact bools_len _ | (simp [ints_len, bools_len, pairs_len, part_len, *]; done) | (simp [ints_len, bools_len, pairs_len]; omega) | rfl) | (refine agg_eq ?_; repeat' (first | (refine lendC_whole rfl ?_; first | assumption | exact ints_len _ | exact pairs_len _ | exact bools_len _ | (simp [ints_len, bools_len, pairs_len, part_len, *]; done) | (simp [ints_len, bools_len, pairs_len]; omega) | rfl) | refine cons_eq ?_ ?_ | rfl)) | rfl | simp [E.lend, E.lendC, E.ev, E.cv, E.get, E.fill', E.fill, AV.sh, AC.sh, Res.sh, ints_len, *]) (by rintro r S ⟨rfl, rfl⟩; exact ⟨rfl, rfl⟩) ?_))
      rintro r S ⟨rfl, rfl⟩
      refine EOps_go rfl rfl (EOp_light rfl (by decide) (Pure.light (L_pick rfl rfl)) ?_)
      refine EOps_go rfl rfl (EOp_light rfl (by decide) (Pure.light (L_assign rfl)) ?_)
      refine EOps_nil ?_
      refine E_ret ?_
      refine ⟨_, [], rfl, rfl, bool_eq ?_, rfl⟩
      simp_all
    · refine EOps_skip1 rfl rfl rfl (by decide) ?_
      refine EOps_skip1 rfl rfl rfl (by decide) ?_
      refine EOps_skip1 rfl rfl rfl (by decide) ?_
      refine EOps_skip1 rfl rfl rfl (by decide) ?_
      refine EOps_skip1 rfl rfl rfl (by decide) ?_
      refine EOps_go rfl rfl (EOp_light rfl (by decide) (Pure.light (L_pick rfl rfl)) ?_)
      refine EOps_go rfl rfl (EOp_light rfl (by decide) (Pure.light (L_assign rfl)) ?_)
      refine EOps_nil ?_
      refine E_ret ?_
      refine ⟨_, [], rfl, rfl, bool_eq ?_, rfl⟩
      simp_all
  · refine EOps_skip1 rfl rfl rfl (by decide) ?_
    refine EOps_skip1 rfl rfl rfl (by decide) ?_
    refine EOps_skip1 rfl rfl rfl (by decide) ?_
    refine EOps_skip1 rfl rfl rfl (by decide) ?_
    refine EOps_skip1 rfl rfl rfl (by decide) ?_
    refine EOps_go rfl rfl (EOp_light rfl (by decide) (Pure.light (L_pick rfl rfl)) ?_)
    refine EOps_go rfl rfl (EOp_light rfl (by decide) (Pure.light (L_move rfl)) ?_)
    refine EOps_skip1 rfl rfl rfl (by decide) ?_
    refine EOps_skip1 rfl rfl rfl (by decide) ?_
    refine EOps_skip1 rfl rfl rfl (by decide) ?_
    refine EOps_skip1 rfl rfl rfl (by decide) ?_
    refine EOps_skip1 rfl rfl rfl (by decide) ?_
    refine EOps_go rfl rfl (EOp_light rfl (by decide) (Pure.light (L_pick rfl rfl)) ?_)
    refine EOps_go rfl rfl (EOp_light rfl (by decide) (Pure.light (L_assign rfl)) ?_)
    refine EOps_nil ?_
    refine E_ret ?_
    refine ⟨_, [], rfl, rfl, bool_eq ?_, rfl⟩
    simp_all

set_option maxRecDepth 20000 in
set_option maxHeartbeats 2000000 in
theorem c_laws_eqCracker (a b : Crk) : EFn Try.prog 43 [.agg (crkC a), .agg (crkC b)] [] (fun r S => r = .c (.sc (.bool (decide (a = b)))) ∧ S = []) := by
  refine E_fn Try.func43 rfl (Nat.le_of_ble_eq_true rfl) ?_
  obtain ⟨a1, a2, a3⟩ := a
  obtain ⟨b1, b2, b3⟩ := b
  refine E_seq ?_
  refine E_region' (L := [0, 1, 2]) rfl ?_
  refine EOps_go rfl rfl (EOp_box rfl rfl (by decide) rfl ?_)
  refine EOps_go rfl rfl (EOp_box rfl rfl (by decide) rfl ?_)
  refine EOps_go rfl rfl (EOp_light rfl (by decide) (Pure.light (L_assign rfl)) ?_)
  refine EOps_nil ?_
  refine E_seq ?_
  refine E_seq ?_
  refine E_region' (L := [0, 1, 2, 3, 4, 5]) rfl ?_
  refine EOps_go rfl rfl (EOp_light rfl (by decide) (Pure.light (L_field rfl fo_49_0 (by first | rfl | exact ptrOk_of (by first | rfl | assumption) (by first | assumption | exact ints_len _ | exact pairs_len _ | exact bools_len _ | (simp [ints_len, bools_len, pairs_len, part_len, *]; done) | (simp [ints_len, bools_len, pairs_len]; omega) | rfl)) rfl)) ?_)
  refine EOps_go rfl rfl (EOp_light rfl (by decide) (L_load rfl (by first | exact ld_bp (by first | rfl | assumption) ty_35 rfl | exact ld_rp ty_35 rfl | exact ld_ep (by first | rfl | assumption) (by first | assumption | exact ints_len _ | exact pairs_len _ | exact bools_len _ | (simp [ints_len, bools_len, pairs_len, part_len, *]; done) | (simp [ints_len, bools_len, pairs_len]; omega) | rfl) (by first | (first | assumption | exact ints_at (by assumption) | exact bools_at (by assumption) | exact pairs_at (by assumption) | exact ints_at (part_at (by assumption)) | exact bools_at (part_at (by assumption)) | exact pairs_at (part_at (by assumption)) | exact List.getElem?_set_self (by omega) | rfl) | ((try simp only [Int.toNat_natCast, Nat.zero_add]); first | assumption | exact ints_at (by assumption) | exact bools_at (by assumption) | exact pairs_at (by assumption) | exact ints_at (part_at (by assumption)) | exact bools_at (part_at (by assumption)) | exact pairs_at (part_at (by assumption)) | exact List.getElem?_set_self (by omega) | rfl)) ty_35 rfl)) ?_)
  refine EOps_go rfl rfl (EOp_light rfl (by decide) (Pure.light (L_field rfl fo_49_0 (by first | rfl | exact ptrOk_of (by first | rfl | assumption) (by first | assumption | exact ints_len _ | exact pairs_len _ | exact bools_len _ | (simp [ints_len, bools_len, pairs_len, part_len, *]; done) | (simp [ints_len, bools_len, pairs_len]; omega) | rfl)) rfl)) ?_)
  refine EOps_go rfl rfl (EOp_light rfl (by decide) (L_load rfl (by first | exact ld_bp (by first | rfl | assumption) ty_35 rfl | exact ld_rp ty_35 rfl | exact ld_ep (by first | rfl | assumption) (by first | assumption | exact ints_len _ | exact pairs_len _ | exact bools_len _ | (simp [ints_len, bools_len, pairs_len, part_len, *]; done) | (simp [ints_len, bools_len, pairs_len]; omega) | rfl) (by first | (first | assumption | exact ints_at (by assumption) | exact bools_at (by assumption) | exact pairs_at (by assumption) | exact ints_at (part_at (by assumption)) | exact bools_at (part_at (by assumption)) | exact pairs_at (part_at (by assumption)) | exact List.getElem?_set_self (by omega) | rfl) | ((try simp only [Int.toNat_natCast, Nat.zero_add]); first | assumption | exact ints_at (by assumption) | exact bools_at (by assumption) | exact pairs_at (by assumption) | exact ints_at (part_at (by assumption)) | exact bools_at (part_at (by assumption)) | exact pairs_at (part_at (by assumption)) | exact List.getElem?_set_self (by omega) | rfl)) ty_35 rfl)) ?_)
  refine EOps_go rfl rfl (Heavy.op (H_pcall1 rfl rfl (by decide) rfl ca_24 (c_laws_eqIntS a1 b1) (by refine cons_eq ?_ (cons_eq ?_ (rfl)) <;> first | (refine lend_whole rfl ?_; first | assumption | exact ints_len _ | exact pairs_len _ | exact bools_len _ | (simp [ints_len, bools_len, pairs_len, part_len, *]; done) | (simp [ints_len, bools_len, pairs_len]; omega) | rfl) | (refine agg_eq ?_; repeat' (first | (refine lendC_whole rfl ?_; first | assumption | exact ints_len _ | exact pairs_len _ | exact bools_len _ | (simp [ints_len, bools_len, pairs_len, part_len, *]; done) | (simp [ints_len, bools_len, pairs_len]; omega) | rfl) | refine cons_eq ?_ ?_ | rfl)) | rfl | simp [E.lend, E.lendC, E.ev, E.cv, E.get, E.fill', E.fill, AV.sh, AC.sh, Res.sh, ints_len, *]) (by rintro r S ⟨rfl, rfl⟩; exact ⟨rfl, rfl⟩) ?_))
  rintro r S ⟨rfl, rfl⟩
  refine EOps_go rfl rfl (EOp_light rfl (by decide) (Pure.light (L_not rfl rfl)) ?_)
  refine EOps_nil ?_
  refine E_cond rfl (fun hc10 => ?_) (fun hc10 => ?_)
  · refine E_seq ?_
    refine E_region' (L := [0]) rfl ?_
    refine EOps_go rfl rfl (EOp_light rfl (by decide) (Pure.light (L_assign rfl)) ?_)
    refine EOps_nil ?_
    refine E_ret ?_
    refine ⟨_, [], rfl, rfl, bool_eq ?_, rfl⟩
    simp_all
  · refine E_skip ?_
    refine E_seq ?_
    refine E_seq ?_
    refine E_region' (L := [0, 1, 2, 3, 4, 5]) rfl ?_
    refine EOps_go rfl rfl (EOp_light rfl (by decide) (Pure.light (L_field rfl fo_49_1 (by first | rfl | exact ptrOk_of (by first | rfl | assumption) (by first | assumption | exact ints_len _ | exact pairs_len _ | exact bools_len _ | (simp [ints_len, bools_len, pairs_len, part_len, *]; done) | (simp [ints_len, bools_len, pairs_len]; omega) | rfl)) rfl)) ?_)
    refine EOps_go rfl rfl (EOp_light rfl (by decide) (L_load rfl (by first | exact ld_bp (by first | rfl | assumption) ty_35 rfl | exact ld_rp ty_35 rfl | exact ld_ep (by first | rfl | assumption) (by first | assumption | exact ints_len _ | exact pairs_len _ | exact bools_len _ | (simp [ints_len, bools_len, pairs_len, part_len, *]; done) | (simp [ints_len, bools_len, pairs_len]; omega) | rfl) (by first | (first | assumption | exact ints_at (by assumption) | exact bools_at (by assumption) | exact pairs_at (by assumption) | exact ints_at (part_at (by assumption)) | exact bools_at (part_at (by assumption)) | exact pairs_at (part_at (by assumption)) | exact List.getElem?_set_self (by omega) | rfl) | ((try simp only [Int.toNat_natCast, Nat.zero_add]); first | assumption | exact ints_at (by assumption) | exact bools_at (by assumption) | exact pairs_at (by assumption) | exact ints_at (part_at (by assumption)) | exact bools_at (part_at (by assumption)) | exact pairs_at (part_at (by assumption)) | exact List.getElem?_set_self (by omega) | rfl)) ty_35 rfl)) ?_)
    refine EOps_go rfl rfl (EOp_light rfl (by decide) (Pure.light (L_field rfl fo_49_1 (by first | rfl | exact ptrOk_of (by first | rfl | assumption) (by first | assumption | exact ints_len _ | exact pairs_len _ | exact bools_len _ | (simp [ints_len, bools_len, pairs_len, part_len, *]; done) | (simp [ints_len, bools_len, pairs_len]; omega) | rfl)) rfl)) ?_)
    refine EOps_go rfl rfl (EOp_light rfl (by decide) (L_load rfl (by first | exact ld_bp (by first | rfl | assumption) ty_35 rfl | exact ld_rp ty_35 rfl | exact ld_ep (by first | rfl | assumption) (by first | assumption | exact ints_len _ | exact pairs_len _ | exact bools_len _ | (simp [ints_len, bools_len, pairs_len, part_len, *]; done) | (simp [ints_len, bools_len, pairs_len]; omega) | rfl) (by first | (first | assumption | exact ints_at (by assumption) | exact bools_at (by assumption) | exact pairs_at (by assumption) | exact ints_at (part_at (by assumption)) | exact bools_at (part_at (by assumption)) | exact pairs_at (part_at (by assumption)) | exact List.getElem?_set_self (by omega) | rfl) | ((try simp only [Int.toNat_natCast, Nat.zero_add]); first | assumption | exact ints_at (by assumption) | exact bools_at (by assumption) | exact pairs_at (by assumption) | exact ints_at (part_at (by assumption)) | exact bools_at (part_at (by assumption)) | exact pairs_at (part_at (by assumption)) | exact List.getElem?_set_self (by omega) | rfl)) ty_35 rfl)) ?_)
    refine EOps_go rfl rfl (Heavy.op (H_pcall1 rfl rfl (by decide) rfl ca_24 (c_laws_eqIntS a2 b2) (by refine cons_eq ?_ (cons_eq ?_ (rfl)) <;> first | (refine lend_whole rfl ?_; first | assumption | exact ints_len _ | exact pairs_len _ | exact bools_len _ | (simp [ints_len, bools_len, pairs_len, part_len, *]; done) | (simp [ints_len, bools_len, pairs_len]; omega) | rfl) | (refine agg_eq ?_; repeat' (first | (refine lendC_whole rfl ?_; first | assumption | exact ints_len _ | exact pairs_len _ | exact bools_len _ | (simp [ints_len, bools_len, pairs_len, part_len, *]; done) | (simp [ints_len, bools_len, pairs_len]; omega) | rfl) | refine cons_eq ?_ ?_ | rfl)) | rfl | simp [E.lend, E.lendC, E.ev, E.cv, E.get, E.fill', E.fill, AV.sh, AC.sh, Res.sh, ints_len, *]) (by rintro r S ⟨rfl, rfl⟩; exact ⟨rfl, rfl⟩) ?_))
    rintro r S ⟨rfl, rfl⟩
    refine EOps_go rfl rfl (EOp_light rfl (by decide) (Pure.light (L_not rfl rfl)) ?_)
    refine EOps_nil ?_
    refine E_cond rfl (fun hc16 => ?_) (fun hc16 => ?_)
    · refine E_seq ?_
      refine E_region' (L := [0]) rfl ?_
      refine EOps_go rfl rfl (EOp_light rfl (by decide) (Pure.light (L_assign rfl)) ?_)
      refine EOps_nil ?_
      refine E_ret ?_
      refine ⟨_, [], rfl, rfl, bool_eq ?_, rfl⟩
      simp_all
    · refine E_skip ?_
      refine E_seq ?_
      refine E_seq ?_
      refine E_region' (L := [0, 1, 2, 3, 4, 5]) rfl ?_
      refine EOps_go rfl rfl (EOp_light rfl (by decide) (Pure.light (L_field rfl fo_49_2 (by first | rfl | exact ptrOk_of (by first | rfl | assumption) (by first | assumption | exact ints_len _ | exact pairs_len _ | exact bools_len _ | (simp [ints_len, bools_len, pairs_len, part_len, *]; done) | (simp [ints_len, bools_len, pairs_len]; omega) | rfl)) rfl)) ?_)
      refine EOps_go rfl rfl (EOp_light rfl (by decide) (L_load rfl (by first | exact ld_bp (by first | rfl | assumption) ty_47 rfl | exact ld_rp ty_47 rfl | exact ld_ep (by first | rfl | assumption) (by first | assumption | exact ints_len _ | exact pairs_len _ | exact bools_len _ | (simp [ints_len, bools_len, pairs_len, part_len, *]; done) | (simp [ints_len, bools_len, pairs_len]; omega) | rfl) (by first | (first | assumption | exact ints_at (by assumption) | exact bools_at (by assumption) | exact pairs_at (by assumption) | exact ints_at (part_at (by assumption)) | exact bools_at (part_at (by assumption)) | exact pairs_at (part_at (by assumption)) | exact List.getElem?_set_self (by omega) | rfl) | ((try simp only [Int.toNat_natCast, Nat.zero_add]); first | assumption | exact ints_at (by assumption) | exact bools_at (by assumption) | exact pairs_at (by assumption) | exact ints_at (part_at (by assumption)) | exact bools_at (part_at (by assumption)) | exact pairs_at (part_at (by assumption)) | exact List.getElem?_set_self (by omega) | rfl)) ty_47 rfl)) ?_)
      refine EOps_go rfl rfl (EOp_light rfl (by decide) (Pure.light (L_field rfl fo_49_2 (by first | rfl | exact ptrOk_of (by first | rfl | assumption) (by first | assumption | exact ints_len _ | exact pairs_len _ | exact bools_len _ | (simp [ints_len, bools_len, pairs_len, part_len, *]; done) | (simp [ints_len, bools_len, pairs_len]; omega) | rfl)) rfl)) ?_)
      refine EOps_go rfl rfl (EOp_light rfl (by decide) (L_load rfl (by first | exact ld_bp (by first | rfl | assumption) ty_47 rfl | exact ld_rp ty_47 rfl | exact ld_ep (by first | rfl | assumption) (by first | assumption | exact ints_len _ | exact pairs_len _ | exact bools_len _ | (simp [ints_len, bools_len, pairs_len, part_len, *]; done) | (simp [ints_len, bools_len, pairs_len]; omega) | rfl) (by first | (first | assumption | exact ints_at (by assumption) | exact bools_at (by assumption) | exact pairs_at (by assumption) | exact ints_at (part_at (by assumption)) | exact bools_at (part_at (by assumption)) | exact pairs_at (part_at (by assumption)) | exact List.getElem?_set_self (by omega) | rfl) | ((try simp only [Int.toNat_natCast, Nat.zero_add]); first | assumption | exact ints_at (by assumption) | exact bools_at (by assumption) | exact pairs_at (by assumption) | exact ints_at (part_at (by assumption)) | exact bools_at (part_at (by assumption)) | exact pairs_at (part_at (by assumption)) | exact List.getElem?_set_self (by omega) | rfl)) ty_47 rfl)) ?_)
      refine EOps_go rfl rfl (Heavy.op (H_pcall1 rfl rfl (by decide) rfl ca_80 (c_laws_eqPivotS a3 b3) (by refine cons_eq ?_ (cons_eq ?_ (rfl)) <;> first | (refine lend_whole rfl ?_; first | assumption | exact ints_len _ | exact pairs_len _ | exact bools_len _ | (simp [ints_len, bools_len, pairs_len, part_len, *]; done) | (simp [ints_len, bools_len, pairs_len]; omega) | rfl) | (refine agg_eq ?_; repeat' (first | (refine lendC_whole rfl ?_; first | assumption | exact ints_len _ | exact pairs_len _ | exact bools_len _ | (simp [ints_len, bools_len, pairs_len, part_len, *]; done) | (simp [ints_len, bools_len, pairs_len]; omega) | rfl) | refine cons_eq ?_ ?_ | rfl)) | rfl | simp [E.lend, E.lendC, E.ev, E.cv, E.get, E.fill', E.fill, AV.sh, AC.sh, Res.sh, ints_len, *]) (by rintro r S ⟨rfl, rfl⟩; exact ⟨rfl, rfl⟩) ?_))
      rintro r S ⟨rfl, rfl⟩
      refine EOps_go rfl rfl (EOp_light rfl (by decide) (Pure.light (L_not rfl rfl)) ?_)
      refine EOps_nil ?_
      refine E_cond rfl (fun hc22 => ?_) (fun hc22 => ?_)
      · refine E_seq ?_
        refine E_region' (L := [0]) rfl ?_
        refine EOps_go rfl rfl (EOp_light rfl (by decide) (Pure.light (L_assign rfl)) ?_)
        refine EOps_nil ?_
        refine E_ret ?_
        refine ⟨_, [], rfl, rfl, bool_eq ?_, rfl⟩
        simp_all
      · refine E_skip ?_
        refine E_seq ?_
        refine E_region' (L := [0]) rfl ?_
        refine EOps_go rfl rfl (EOp_light rfl (by decide) (Pure.light (L_assign rfl)) ?_)
        refine EOps_nil ?_
        refine E_ret ?_
        refine ⟨_, [], rfl, rfl, bool_eq ?_, rfl⟩
        simp_all

set_option maxRecDepth 20000 in
set_option maxHeartbeats 2000000 in
theorem c_spec_EqualMaps (a b : Mp) : EFn Try.prog 26 [.agg (mpC a), .agg (mpC b)] [] (fun r S => r = .c (.sc (.bool (decide (a = b)))) ∧ S = []) := by
  refine E_fn Try.func26 rfl (Nat.le_of_ble_eq_true rfl) ?_
  obtain ⟨a1, a2, a3⟩ := a
  obtain ⟨b1, b2, b3⟩ := b
  refine E_seq ?_
  refine E_region' (L := [0, 1, 2]) rfl ?_
  refine EOps_go rfl rfl (EOp_box rfl rfl (by decide) rfl ?_)
  refine EOps_go rfl rfl (EOp_box rfl rfl (by decide) rfl ?_)
  refine EOps_go rfl rfl (EOp_light rfl (by decide) (Pure.light (L_assign rfl)) ?_)
  refine EOps_nil ?_
  refine E_seq ?_
  refine E_region' (L := [0, 1, 2, 3, 4, 5, 6, 7, 8, 9, 10, 11, 12, 13, 14, 15, 16, 17, 18, 19]) rfl ?_
  refine EOps_go rfl rfl (EOp_light rfl (by decide) (Pure.light (L_field rfl fo_51_0 (by first | rfl | exact ptrOk_of (by first | rfl | assumption) (by first | assumption | exact ints_len _ | exact pairs_len _ | exact bools_len _ | (simp [ints_len, bools_len, pairs_len, part_len, *]; done) | (simp [ints_len, bools_len, pairs_len]; omega) | rfl)) rfl)) ?_)
  refine EOps_go rfl rfl (EOp_light rfl (by decide) (L_load rfl (by first | exact ld_bp (by first | rfl | assumption) ty_49 rfl | exact ld_rp ty_49 rfl | exact ld_ep (by first | rfl | assumption) (by first | assumption | exact ints_len _ | exact pairs_len _ | exact bools_len _ | (simp [ints_len, bools_len, pairs_len, part_len, *]; done) | (simp [ints_len, bools_len, pairs_len]; omega) | rfl) (by first | (first | assumption | exact ints_at (by assumption) | exact bools_at (by assumption) | exact pairs_at (by assumption) | exact ints_at (part_at (by assumption)) | exact bools_at (part_at (by assumption)) | exact pairs_at (part_at (by assumption)) | exact List.getElem?_set_self (by omega) | rfl) | ((try simp only [Int.toNat_natCast, Nat.zero_add]); first | assumption | exact ints_at (by assumption) | exact bools_at (by assumption) | exact pairs_at (by assumption) | exact ints_at (part_at (by assumption)) | exact bools_at (part_at (by assumption)) | exact pairs_at (part_at (by assumption)) | exact List.getElem?_set_self (by omega) | rfl)) ty_49 rfl)) ?_)
  refine EOps_go rfl rfl (EOp_light rfl (by decide) (Pure.light (L_field rfl fo_51_0 (by first | rfl | exact ptrOk_of (by first | rfl | assumption) (by first | assumption | exact ints_len _ | exact pairs_len _ | exact bools_len _ | (simp [ints_len, bools_len, pairs_len, part_len, *]; done) | (simp [ints_len, bools_len, pairs_len]; omega) | rfl)) rfl)) ?_)
  refine EOps_go rfl rfl (EOp_light rfl (by decide) (L_load rfl (by first | exact ld_bp (by first | rfl | assumption) ty_49 rfl | exact ld_rp ty_49 rfl | exact ld_ep (by first | rfl | assumption) (by first | assumption | exact ints_len _ | exact pairs_len _ | exact bools_len _ | (simp [ints_len, bools_len, pairs_len, part_len, *]; done) | (simp [ints_len, bools_len, pairs_len]; omega) | rfl) (by first | (first | assumption | exact ints_at (by assumption) | exact bools_at (by assumption) | exact pairs_at (by assumption) | exact ints_at (part_at (by assumption)) | exact bools_at (part_at (by assumption)) | exact pairs_at (part_at (by assumption)) | exact List.getElem?_set_self (by omega) | rfl) | ((try simp only [Int.toNat_natCast, Nat.zero_add]); first | assumption | exact ints_at (by assumption) | exact bools_at (by assumption) | exact pairs_at (by assumption) | exact ints_at (part_at (by assumption)) | exact bools_at (part_at (by assumption)) | exact pairs_at (part_at (by assumption)) | exact List.getElem?_set_self (by omega) | rfl)) ty_49 rfl)) ?_)
  refine EOps_go rfl rfl (Heavy.op (H_pcall1 rfl rfl (by decide) rfl ca_61 (c_spec_EqualCrackers a1 b1) (by refine cons_eq ?_ (cons_eq ?_ (rfl)) <;> first | (refine lend_whole rfl ?_; first | assumption | exact ints_len _ | exact pairs_len _ | exact bools_len _ | (simp [ints_len, bools_len, pairs_len, part_len, *]; done) | (simp [ints_len, bools_len, pairs_len]; omega) | rfl) | (refine agg_eq ?_; repeat' (first | (refine lendC_whole rfl ?_; first | assumption | exact ints_len _ | exact pairs_len _ | exact bools_len _ | (simp [ints_len, bools_len, pairs_len, part_len, *]; done) | (simp [ints_len, bools_len, pairs_len]; omega) | rfl) | refine cons_eq ?_ ?_ | rfl)) | rfl | simp [E.lend, E.lendC, E.ev, E.cv, E.get, E.fill', E.fill, AV.sh, AC.sh, Res.sh, ints_len, *]) (by rintro r S ⟨rfl, rfl⟩; exact ⟨rfl, rfl⟩) ?_))
  rintro r S ⟨rfl, rfl⟩
  refine EOps_go rfl rfl (EOp_light rfl (by decide) (Pure.light (L_move rfl)) ?_)
  refine EOps_split 10 (b := _) rfl (fun hg10 => ?_) (fun hg10 => ?_)
  · refine EOps_go rfl rfl (EOp_light rfl (by decide) (Pure.light (L_field rfl fo_51_1 (by first | rfl | exact ptrOk_of (by first | rfl | assumption) (by first | assumption | exact ints_len _ | exact pairs_len _ | exact bools_len _ | (simp [ints_len, bools_len, pairs_len, part_len, *]; done) | (simp [ints_len, bools_len, pairs_len]; omega) | rfl)) rfl)) ?_)
    refine EOps_go rfl rfl (EOp_light rfl (by decide) (L_load rfl (by first | exact ld_bp (by first | rfl | assumption) ty_35 rfl | exact ld_rp ty_35 rfl | exact ld_ep (by first | rfl | assumption) (by first | assumption | exact ints_len _ | exact pairs_len _ | exact bools_len _ | (simp [ints_len, bools_len, pairs_len, part_len, *]; done) | (simp [ints_len, bools_len, pairs_len]; omega) | rfl) (by first | (first | assumption | exact ints_at (by assumption) | exact bools_at (by assumption) | exact pairs_at (by assumption) | exact ints_at (part_at (by assumption)) | exact bools_at (part_at (by assumption)) | exact pairs_at (part_at (by assumption)) | exact List.getElem?_set_self (by omega) | rfl) | ((try simp only [Int.toNat_natCast, Nat.zero_add]); first | assumption | exact ints_at (by assumption) | exact bools_at (by assumption) | exact pairs_at (by assumption) | exact ints_at (part_at (by assumption)) | exact bools_at (part_at (by assumption)) | exact pairs_at (part_at (by assumption)) | exact List.getElem?_set_self (by omega) | rfl)) ty_35 rfl)) ?_)
    refine EOps_go rfl rfl (EOp_light rfl (by decide) (Pure.light (L_field rfl fo_51_1 (by first | rfl | exact ptrOk_of (by first | rfl | assumption) (by first | assumption | exact ints_len _ | exact pairs_len _ | exact bools_len _ | (simp [ints_len, bools_len, pairs_len, part_len, *]; done) | (simp [ints_len, bools_len, pairs_len]; omega) | rfl)) rfl)) ?_)
    refine EOps_go rfl rfl (EOp_light rfl (by decide) (L_load rfl (by first | exact ld_bp (by first | rfl | assumption) ty_35 rfl | exact ld_rp ty_35 rfl | exact ld_ep (by first | rfl | assumption) (by first | assumption | exact ints_len _ | exact pairs_len _ | exact bools_len _ | (simp [ints_len, bools_len, pairs_len, part_len, *]; done) | (simp [ints_len, bools_len, pairs_len]; omega) | rfl) (by first | (first | assumption | exact ints_at (by assumption) | exact bools_at (by assumption) | exact pairs_at (by assumption) | exact ints_at (part_at (by assumption)) | exact bools_at (part_at (by assumption)) | exact pairs_at (part_at (by assumption)) | exact List.getElem?_set_self (by omega) | rfl) | ((try simp only [Int.toNat_natCast, Nat.zero_add]); first | assumption | exact ints_at (by assumption) | exact bools_at (by assumption) | exact pairs_at (by assumption) | exact ints_at (part_at (by assumption)) | exact bools_at (part_at (by assumption)) | exact pairs_at (part_at (by assumption)) | exact List.getElem?_set_self (by omega) | rfl)) ty_35 rfl)) ?_)
    refine EOps_go rfl rfl (Heavy.op (H_pcall1 rfl rfl (by decide) rfl ca_62 (c_spec_l4Ints a2 b2) (by refine cons_eq ?_ (cons_eq ?_ (rfl)) <;> first | (refine lend_whole rfl ?_; first | assumption | exact ints_len _ | exact pairs_len _ | exact bools_len _ | (simp [ints_len, bools_len, pairs_len, part_len, *]; done) | (simp [ints_len, bools_len, pairs_len]; omega) | rfl) | (refine agg_eq ?_; repeat' (first | (refine lendC_whole rfl ?_; first | assumption | exact ints_len _ | exact pairs_len _ | exact bools_len _ | (simp [ints_len, bools_len, pairs_len, part_len, *]; done) | (simp [ints_len, bools_len, pairs_len]; omega) | rfl) | refine cons_eq ?_ ?_ | rfl)) | rfl | simp [E.lend, E.lendC, E.ev, E.cv, E.get, E.fill', E.fill, AV.sh, AC.sh, Res.sh, ints_len, *]) (by rintro r S ⟨rfl, rfl⟩; exact ⟨rfl, rfl⟩) ?_))
    rintro r S ⟨rfl, rfl⟩
    refine EOps_go rfl rfl (EOp_light rfl (by decide) (Pure.light (L_pick rfl rfl)) ?_)
    refine EOps_go rfl rfl (EOp_light rfl (by decide) (Pure.light (L_move rfl)) ?_)
    refine EOps_split 17 (b := _) rfl (fun hg17 => ?_) (fun hg17 => ?_)
    · refine EOps_go rfl rfl (EOp_light rfl (by decide) (Pure.light (L_field rfl fo_51_2 (by first | rfl | exact ptrOk_of (by first | rfl | assumption) (by first | assumption | exact ints_len _ | exact pairs_len _ | exact bools_len _ | (simp [ints_len, bools_len, pairs_len, part_len, *]; done) | (simp [ints_len, bools_len, pairs_len]; omega) | rfl)) rfl)) ?_)
      refine EOps_go rfl rfl (EOp_light rfl (by decide) (L_load rfl (by first | exact ld_bp (by first | rfl | assumption) ty_3 rfl | exact ld_rp ty_3 rfl | exact ld_ep (by first | rfl | assumption) (by first | assumption | exact ints_len _ | exact pairs_len _ | exact bools_len _ | (simp [ints_len, bools_len, pairs_len, part_len, *]; done) | (simp [ints_len, bools_len, pairs_len]; omega) | rfl) (by first | (first | assumption | exact ints_at (by assumption) | exact bools_at (by assumption) | exact pairs_at (by assumption) | exact ints_at (part_at (by assumption)) | exact bools_at (part_at (by assumption)) | exact pairs_at (part_at (by assumption)) | exact List.getElem?_set_self (by omega) | rfl) | ((try simp only [Int.toNat_natCast, Nat.zero_add]); first | assumption | exact ints_at (by assumption) | exact bools_at (by assumption) | exact pairs_at (by assumption) | exact ints_at (part_at (by assumption)) | exact bools_at (part_at (by assumption)) | exact pairs_at (part_at (by assumption)) | exact List.getElem?_set_self (by omega) | rfl)) ty_3 rfl)) ?_)
      refine EOps_go rfl rfl (EOp_light rfl (by decide) (Pure.light (L_field rfl fo_51_2 (by first | rfl | exact ptrOk_of (by first | rfl | assumption) (by first | assumption | exact ints_len _ | exact pairs_len _ | exact bools_len _ | (simp [ints_len, bools_len, pairs_len, part_len, *]; done) | (simp [ints_len, bools_len, pairs_len]; omega) | rfl)) rfl)) ?_)
      refine EOps_go rfl rfl (EOp_light rfl (by decide) (L_load rfl (by first | exact ld_bp (by first | rfl | assumption) ty_3 rfl | exact ld_rp ty_3 rfl | exact ld_ep (by first | rfl | assumption) (by first | assumption | exact ints_len _ | exact pairs_len _ | exact bools_len _ | (simp [ints_len, bools_len, pairs_len, part_len, *]; done) | (simp [ints_len, bools_len, pairs_len]; omega) | rfl) (by first | (first | assumption | exact ints_at (by assumption) | exact bools_at (by assumption) | exact pairs_at (by assumption) | exact ints_at (part_at (by assumption)) | exact bools_at (part_at (by assumption)) | exact pairs_at (part_at (by assumption)) | exact List.getElem?_set_self (by omega) | rfl) | ((try simp only [Int.toNat_natCast, Nat.zero_add]); first | assumption | exact ints_at (by assumption) | exact bools_at (by assumption) | exact pairs_at (by assumption) | exact ints_at (part_at (by assumption)) | exact bools_at (part_at (by assumption)) | exact pairs_at (part_at (by assumption)) | exact List.getElem?_set_self (by omega) | rfl)) ty_3 rfl)) ?_)
      refine EOps_go rfl rfl (EOp_light rfl (by decide) (Pure.light (L_bin rfl rfl rfl rfl)) ?_)
      refine EOps_go rfl rfl (EOp_light rfl (by decide) (Pure.light (L_pick rfl rfl)) ?_)
      refine EOps_go rfl rfl (EOp_light rfl (by decide) (Pure.light (L_assign rfl)) ?_)
      refine EOps_nil ?_
      refine E_ret ?_
      refine ⟨_, [], rfl, rfl, bool_eq ?_, rfl⟩
      simp_all
    · refine EOps_skip1 rfl rfl rfl (by decide) ?_
      refine EOps_skip1 rfl rfl rfl (by decide) ?_
      refine EOps_skip1 rfl rfl rfl (by decide) ?_
      refine EOps_skip1 rfl rfl rfl (by decide) ?_
      refine EOps_skip1 rfl rfl rfl (by decide) ?_
      refine EOps_go rfl rfl (EOp_light rfl (by decide) (Pure.light (L_pick rfl rfl)) ?_)
      refine EOps_go rfl rfl (EOp_light rfl (by decide) (Pure.light (L_assign rfl)) ?_)
      refine EOps_nil ?_
      refine E_ret ?_
      refine ⟨_, [], rfl, rfl, bool_eq ?_, rfl⟩
      simp_all
  · refine EOps_skip1 rfl rfl rfl (by decide) ?_
    refine EOps_skip1 rfl rfl rfl (by decide) ?_
    refine EOps_skip1 rfl rfl rfl (by decide) ?_
    refine EOps_skip1 rfl rfl rfl (by decide) ?_
    refine EOps_skip1 rfl rfl rfl (by decide) ?_
    refine EOps_go rfl rfl (EOp_light rfl (by decide) (Pure.light (L_pick rfl rfl)) ?_)
    refine EOps_go rfl rfl (EOp_light rfl (by decide) (Pure.light (L_move rfl)) ?_)
    refine EOps_skip1 rfl rfl rfl (by decide) ?_
    refine EOps_skip1 rfl rfl rfl (by decide) ?_
    refine EOps_skip1 rfl rfl rfl (by decide) ?_
    refine EOps_skip1 rfl rfl rfl (by decide) ?_
    refine EOps_skip1 rfl rfl rfl (by decide) ?_
    refine EOps_go rfl rfl (EOp_light rfl (by decide) (Pure.light (L_pick rfl rfl)) ?_)
    refine EOps_go rfl rfl (EOp_light rfl (by decide) (Pure.light (L_assign rfl)) ?_)
    refine EOps_nil ?_
    refine E_ret ?_
    refine ⟨_, [], rfl, rfl, bool_eq ?_, rfl⟩
    simp_all

set_option maxRecDepth 20000 in
set_option maxHeartbeats 2000000 in
theorem c_impl_EqualMaps (a b : Mp) : EFn Try.prog 28 [.agg (mpC a), .agg (mpC b)] [] (fun r S => r = .c (.sc (.bool (decide (a = b)))) ∧ S = []) := by
  refine E_fn Try.func28 rfl (Nat.le_of_ble_eq_true rfl) ?_
  obtain ⟨a1, a2, a3⟩ := a
  obtain ⟨b1, b2, b3⟩ := b
  refine E_seq ?_
  refine E_region' (L := [0, 1, 2]) rfl ?_
  refine EOps_go rfl rfl (EOp_box rfl rfl (by decide) rfl ?_)
  refine EOps_go rfl rfl (EOp_box rfl rfl (by decide) rfl ?_)
  refine EOps_go rfl rfl (EOp_light rfl (by decide) (Pure.light (L_assign rfl)) ?_)
  refine EOps_nil ?_
  refine E_seq ?_
  refine E_region' (L := [0, 1, 2, 3, 4, 5, 6, 7, 8, 9, 10, 11, 12, 13, 14, 15, 16, 17, 18, 19]) rfl ?_
  refine EOps_go rfl rfl (EOp_light rfl (by decide) (Pure.light (L_field rfl fo_51_0 (by first | rfl | exact ptrOk_of (by first | rfl | assumption) (by first | assumption | exact ints_len _ | exact pairs_len _ | exact bools_len _ | (simp [ints_len, bools_len, pairs_len, part_len, *]; done) | (simp [ints_len, bools_len, pairs_len]; omega) | rfl)) rfl)) ?_)
  refine EOps_go rfl rfl (EOp_light rfl (by decide) (L_load rfl (by first | exact ld_bp (by first | rfl | assumption) ty_49 rfl | exact ld_rp ty_49 rfl | exact ld_ep (by first | rfl | assumption) (by first | assumption | exact ints_len _ | exact pairs_len _ | exact bools_len _ | (simp [ints_len, bools_len, pairs_len, part_len, *]; done) | (simp [ints_len, bools_len, pairs_len]; omega) | rfl) (by first | (first | assumption | exact ints_at (by assumption) | exact bools_at (by assumption) | exact pairs_at (by assumption) | exact ints_at (part_at (by assumption)) | exact bools_at (part_at (by assumption)) | exact pairs_at (part_at (by assumption)) | exact List.getElem?_set_self (by omega) | rfl) | ((try simp only [Int.toNat_natCast, Nat.zero_add]); first | assumption | exact ints_at (by assumption) | exact bools_at (by assumption) | exact pairs_at (by assumption) | exact ints_at (part_at (by assumption)) | exact bools_at (part_at (by assumption)) | exact pairs_at (part_at (by assumption)) | exact List.getElem?_set_self (by omega) | rfl)) ty_49 rfl)) ?_)
  refine EOps_go rfl rfl (EOp_light rfl (by decide) (Pure.light (L_field rfl fo_51_0 (by first | rfl | exact ptrOk_of (by first | rfl | assumption) (by first | assumption | exact ints_len _ | exact pairs_len _ | exact bools_len _ | (simp [ints_len, bools_len, pairs_len, part_len, *]; done) | (simp [ints_len, bools_len, pairs_len]; omega) | rfl)) rfl)) ?_)
  refine EOps_go rfl rfl (EOp_light rfl (by decide) (L_load rfl (by first | exact ld_bp (by first | rfl | assumption) ty_49 rfl | exact ld_rp ty_49 rfl | exact ld_ep (by first | rfl | assumption) (by first | assumption | exact ints_len _ | exact pairs_len _ | exact bools_len _ | (simp [ints_len, bools_len, pairs_len, part_len, *]; done) | (simp [ints_len, bools_len, pairs_len]; omega) | rfl) (by first | (first | assumption | exact ints_at (by assumption) | exact bools_at (by assumption) | exact pairs_at (by assumption) | exact ints_at (part_at (by assumption)) | exact bools_at (part_at (by assumption)) | exact pairs_at (part_at (by assumption)) | exact List.getElem?_set_self (by omega) | rfl) | ((try simp only [Int.toNat_natCast, Nat.zero_add]); first | assumption | exact ints_at (by assumption) | exact bools_at (by assumption) | exact pairs_at (by assumption) | exact ints_at (part_at (by assumption)) | exact bools_at (part_at (by assumption)) | exact pairs_at (part_at (by assumption)) | exact List.getElem?_set_self (by omega) | rfl)) ty_49 rfl)) ?_)
  refine EOps_go rfl rfl (Heavy.op (H_pcall1 rfl rfl (by decide) rfl ca_63 (c_impl_EqualCrackers a1 b1) (by refine cons_eq ?_ (cons_eq ?_ (rfl)) <;> first | (refine lend_whole rfl ?_; first | assumption | exact ints_len _ | exact pairs_len _ | exact bools_len _ | (simp [ints_len, bools_len, pairs_len, part_len, *]; done) | (simp [ints_len, bools_len, pairs_len]; omega) | rfl) | (refine agg_eq ?_; repeat' (first | (refine lendC_whole rfl ?_; first | assumption | exact ints_len _ | exact pairs_len _ | exact bools_len _ | (simp [ints_len, bools_len, pairs_len, part_len, *]; done) | (simp [ints_len, bools_len, pairs_len]; omega) | rfl) | refine cons_eq ?_ ?_ | rfl)) | rfl | simp [E.lend, E.lendC, E.ev, E.cv, E.get, E.fill', E.fill, AV.sh, AC.sh, Res.sh, ints_len, *]) (by rintro r S ⟨rfl, rfl⟩; exact ⟨rfl, rfl⟩) ?_))
  rintro r S ⟨rfl, rfl⟩
  refine EOps_go rfl rfl (EOp_light rfl (by decide) (Pure.light (L_move rfl)) ?_)
  refine EOps_split 10 (b := _) rfl (fun hg10 => ?_) (fun hg10 => ?_)
  · refine EOps_go rfl rfl (EOp_light rfl (by decide) (Pure.light (L_field rfl fo_51_1 (by first | rfl | exact ptrOk_of (by first | rfl | assumption) (by first | assumption | exact ints_len _ | exact pairs_len _ | exact bools_len _ | (simp [ints_len, bools_len, pairs_len, part_len, *]; done) | (simp [ints_len, bools_len, pairs_len]; omega) | rfl)) rfl)) ?_)
    refine EOps_go rfl rfl (EOp_light rfl (by decide) (L_load rfl (by first | exact ld_bp (by first | rfl | assumption) ty_35 rfl | exact ld_rp ty_35 rfl | exact ld_ep (by first | rfl | assumption) (by first | assumption | exact ints_len _ | exact pairs_len _ | exact bools_len _ | (simp [ints_len, bools_len, pairs_len, part_len, *]; done) | (simp [ints_len, bools_len, pairs_len]; omega) | rfl) (by first | (first | assumption | exact ints_at (by assumption) | exact bools_at (by assumption) | exact pairs_at (by assumption) | exact ints_at (part_at (by assumption)) | exact bools_at (part_at (by assumption)) | exact pairs_at (part_at (by assumption)) | exact List.getElem?_set_self (by omega) | rfl) | ((try simp only [Int.toNat_natCast, Nat.zero_add]); first | assumption | exact ints_at (by assumption) | exact bools_at (by assumption) | exact pairs_at (by assumption) | exact ints_at (part_at (by assumption)) | exact bools_at (part_at (by assumption)) | exact pairs_at (part_at (by assumption)) | exact List.getElem?_set_self (by omega) | rfl)) ty_35 rfl)) ?_)
    refine EOps_go rfl rfl (EOp_light rfl (by decide) (Pure.light (L_field rfl fo_51_1 (by first | rfl | exact ptrOk_of (by first | rfl | assumption) (by first | assumption | exact ints_len _ | exact pairs_len _ | exact bools_len _ | (simp [ints_len, bools_len, pairs_len, part_len, *]; done) | (simp [ints_len, bools_len, pairs_len]; omega) | rfl)) rfl)) ?_)
    refine EOps_go rfl rfl (EOp_light rfl (by decide) (L_load rfl (by first | exact ld_bp (by first | rfl | assumption) ty_35 rfl | exact ld_rp ty_35 rfl | exact ld_ep (by first | rfl | assumption) (by first | assumption | exact ints_len _ | exact pairs_len _ | exact bools_len _ | (simp [ints_len, bools_len, pairs_len, part_len, *]; done) | (simp [ints_len, bools_len, pairs_len]; omega) | rfl) (by first | (first | assumption | exact ints_at (by assumption) | exact bools_at (by assumption) | exact pairs_at (by assumption) | exact ints_at (part_at (by assumption)) | exact bools_at (part_at (by assumption)) | exact pairs_at (part_at (by assumption)) | exact List.getElem?_set_self (by omega) | rfl) | ((try simp only [Int.toNat_natCast, Nat.zero_add]); first | assumption | exact ints_at (by assumption) | exact bools_at (by assumption) | exact pairs_at (by assumption) | exact ints_at (part_at (by assumption)) | exact bools_at (part_at (by assumption)) | exact pairs_at (part_at (by assumption)) | exact List.getElem?_set_self (by omega) | rfl)) ty_35 rfl)) ?_)
    refine EOps_go rfl rfl (Heavy.op (H_pcall1 rfl rfl (by decide) rfl ca_64 (c_slices_Equal___int_int_ a2 b2) (by refine cons_eq ?_ (cons_eq ?_ (rfl)) <;> first | (refine lend_whole rfl ?_; first | assumption | exact ints_len _ | exact pairs_len _ | exact bools_len _ | (simp [ints_len, bools_len, pairs_len, part_len, *]; done) | (simp [ints_len, bools_len, pairs_len]; omega) | rfl) | (refine agg_eq ?_; repeat' (first | (refine lendC_whole rfl ?_; first | assumption | exact ints_len _ | exact pairs_len _ | exact bools_len _ | (simp [ints_len, bools_len, pairs_len, part_len, *]; done) | (simp [ints_len, bools_len, pairs_len]; omega) | rfl) | refine cons_eq ?_ ?_ | rfl)) | rfl | simp [E.lend, E.lendC, E.ev, E.cv, E.get, E.fill', E.fill, AV.sh, AC.sh, Res.sh, ints_len, *]) (by rintro r S ⟨rfl, rfl⟩; exact ⟨rfl, rfl⟩) ?_))
    rintro r S ⟨rfl, rfl⟩
    refine EOps_go rfl rfl (EOp_light rfl (by decide) (Pure.light (L_pick rfl rfl)) ?_)
    refine EOps_go rfl rfl (EOp_light rfl (by decide) (Pure.light (L_move rfl)) ?_)
    refine EOps_split 17 (b := _) rfl (fun hg17 => ?_) (fun hg17 => ?_)
    · refine EOps_go rfl rfl (EOp_light rfl (by decide) (Pure.light (L_field rfl fo_51_2 (by first | rfl | exact ptrOk_of (by first | rfl | assumption) (by first | assumption | exact ints_len _ | exact pairs_len _ | exact bools_len _ | (simp [ints_len, bools_len, pairs_len, part_len, *]; done) | (simp [ints_len, bools_len, pairs_len]; omega) | rfl)) rfl)) ?_)
      refine EOps_go rfl rfl (EOp_light rfl (by decide) (L_load rfl (by first | exact ld_bp (by first | rfl | assumption) ty_3 rfl | exact ld_rp ty_3 rfl | exact ld_ep (by first | rfl | assumption) (by first | assumption | exact ints_len _ | exact pairs_len _ | exact bools_len _ | (simp [ints_len, bools_len, pairs_len, part_len, *]; done) | (simp [ints_len, bools_len, pairs_len]; omega) | rfl) (by first | (first | assumption | exact ints_at (by assumption) | exact bools_at (by assumption) | exact pairs_at (by assumption) | exact ints_at (part_at (by assumption)) | exact bools_at (part_at (by assumption)) | exact pairs_at (part_at (by assumption)) | exact List.getElem?_set_self (by omega) | rfl) | ((try simp only [Int.toNat_natCast, Nat.zero_add]); first | assumption | exact ints_at (by assumption) | exact bools_at (by assumption) | exact pairs_at (by assumption) | exact ints_at (part_at (by assumption)) | exact bools_at (part_at (by assumption)) | exact pairs_at (part_at (by assumption)) | exact List.getElem?_set_self (by omega) | rfl)) ty_3 rfl)) ?_)
      refine EOps_go rfl rfl (EOp_light rfl (by decide) (Pure.light (L_field rfl fo_51_2 (by first | rfl | exact ptrOk_of (by first | rfl | assumption) (by first | assumption | exact ints_len _ | exact pairs_len _ | exact bools_len _ | (simp [ints_len, bools_len, pairs_len, part_len, *]; done) | (simp [ints_len, bools_len, pairs_len]; omega) | rfl)) rfl)) ?_)
      refine EOps_go rfl rfl (EOp_light rfl (by decide) (L_load rfl (by first | exact ld_bp (by first | rfl | assumption) ty_3 rfl | exact ld_rp ty_3 rfl | exact ld_ep (by first | rfl | assumption) (by first | assumption | exact ints_len _ | exact pairs_len _ | exact bools_len _ | (simp [ints_len, bools_len, pairs_len, part_len, *]; done) | (simp [ints_len, bools_len, pairs_len]; omega) | rfl) (by first | (first | assumption | exact ints_at (by assumption) | exact bools_at (by assumption) | exact pairs_at (by assumption) | exact ints_at (part_at (by assumption)) | exact bools_at (part_at (by assumption)) | exact pairs_at (part_at (by assumption)) | exact List.getElem?_set_self (by omega) | rfl) | ((try simp only [Int.toNat_natCast, Nat.zero_add]); first | assumption | exact ints_at (by assumption) | exact bools_at (by assumption) | exact pairs_at (by assumption) | exact ints_at (part_at (by assumption)) | exact bools_at (part_at (by assumption)) | exact pairs_at (part_at (by assumption)) | exact List.getElem?_set_self (by omega) | rfl)) ty_3 rfl)) ?_)
      refine EOps_go rfl rfl (EOp_light rfl (by decide) (Pure.light (L_bin rfl rfl rfl rfl)) ?_)
      refine EOps_go rfl rfl (EOp_light rfl (by decide) (Pure.light (L_pick rfl rfl)) ?_)
      refine EOps_go rfl rfl (EOp_light rfl (by decide) (Pure.light (L_assign rfl)) ?_)
      refine EOps_nil ?_
      refine E_ret ?_
      refine ⟨_, [], rfl, rfl, bool_eq ?_, rfl⟩
      simp_all
    · refine EOps_skip1 rfl rfl rfl (by decide) ?_
      refine EOps_skip1 rfl rfl rfl (by decide) ?_
      refine EOps_skip1 rfl rfl rfl (by decide) ?_
      refine EOps_skip1 rfl rfl rfl (by decide) ?_
      refine EOps_skip1 rfl rfl rfl (by decide) ?_
      refine EOps_go rfl rfl (EOp_light rfl (by decide) (Pure.light (L_pick rfl rfl)) ?_)
      refine EOps_go rfl rfl (EOp_light rfl (by decide) (Pure.light (L_assign rfl)) ?_)
      refine EOps_nil ?_
      refine E_ret ?_
      refine ⟨_, [], rfl, rfl, bool_eq ?_, rfl⟩
      simp_all
  · refine EOps_skip1 rfl rfl rfl (by decide) ?_
    refine EOps_skip1 rfl rfl rfl (by decide) ?_
    refine EOps_skip1 rfl rfl rfl (by decide) ?_
    refine EOps_skip1 rfl rfl rfl (by decide) ?_
    refine EOps_skip1 rfl rfl rfl (by decide) ?_
    refine EOps_go rfl rfl (EOp_light rfl (by decide) (Pure.light (L_pick rfl rfl)) ?_)
    refine EOps_go rfl rfl (EOp_light rfl (by decide) (Pure.light (L_move rfl)) ?_)
    refine EOps_skip1 rfl rfl rfl (by decide) ?_
    refine EOps_skip1 rfl rfl rfl (by decide) ?_
    refine EOps_skip1 rfl rfl rfl (by decide) ?_
    refine EOps_skip1 rfl rfl rfl (by decide) ?_
    refine EOps_skip1 rfl rfl rfl (by decide) ?_
    refine EOps_go rfl rfl (EOp_light rfl (by decide) (Pure.light (L_pick rfl rfl)) ?_)
    refine EOps_go rfl rfl (EOp_light rfl (by decide) (Pure.light (L_assign rfl)) ?_)
    refine EOps_nil ?_
    refine E_ret ?_
    refine ⟨_, [], rfl, rfl, bool_eq ?_, rfl⟩
    simp_all

set_option maxRecDepth 20000 in
set_option maxHeartbeats 2000000 in
theorem c_laws_eqMap (a b : Mp) : EFn Try.prog 29 [.agg (mpC a), .agg (mpC b)] [] (fun r S => r = .c (.sc (.bool (decide (a = b)))) ∧ S = []) := by
  refine E_fn Try.func29 rfl (Nat.le_of_ble_eq_true rfl) ?_
  obtain ⟨a1, a2, a3⟩ := a
  obtain ⟨b1, b2, b3⟩ := b
  refine E_seq ?_
  refine E_region' (L := [0, 1, 2]) rfl ?_
  refine EOps_go rfl rfl (EOp_box rfl rfl (by decide) rfl ?_)
  refine EOps_go rfl rfl (EOp_box rfl rfl (by decide) rfl ?_)
  refine EOps_go rfl rfl (EOp_light rfl (by decide) (Pure.light (L_assign rfl)) ?_)
  refine EOps_nil ?_
  refine E_seq ?_
  refine E_seq ?_
  refine E_region' (L := [0, 1, 2, 3, 4, 5]) rfl ?_
  refine EOps_go rfl rfl (EOp_light rfl (by decide) (Pure.light (L_field rfl fo_51_0 (by first | rfl | exact ptrOk_of (by first | rfl | assumption) (by first | assumption | exact ints_len _ | exact pairs_len _ | exact bools_len _ | (simp [ints_len, bools_len, pairs_len, part_len, *]; done) | (simp [ints_len, bools_len, pairs_len]; omega) | rfl)) rfl)) ?_)
  refine EOps_go rfl rfl (EOp_light rfl (by decide) (L_load rfl (by first | exact ld_bp (by first | rfl | assumption) ty_49 rfl | exact ld_rp ty_49 rfl | exact ld_ep (by first | rfl | assumption) (by first | assumption | exact ints_len _ | exact pairs_len _ | exact bools_len _ | (simp [ints_len, bools_len, pairs_len, part_len, *]; done) | (simp [ints_len, bools_len, pairs_len]; omega) | rfl) (by first | (first | assumption | exact ints_at (by assumption) | exact bools_at (by assumption) | exact pairs_at (by assumption) | exact ints_at (part_at (by assumption)) | exact bools_at (part_at (by assumption)) | exact pairs_at (part_at (by assumption)) | exact List.getElem?_set_self (by omega) | rfl) | ((try simp only [Int.toNat_natCast, Nat.zero_add]); first | assumption | exact ints_at (by assumption) | exact bools_at (by assumption) | exact pairs_at (by assumption) | exact ints_at (part_at (by assumption)) | exact bools_at (part_at (by assumption)) | exact pairs_at (part_at (by assumption)) | exact List.getElem?_set_self (by omega) | rfl)) ty_49 rfl)) ?_)
  refine EOps_go rfl rfl (EOp_light rfl (by decide) (Pure.light (L_field rfl fo_51_0 (by first | rfl | exact ptrOk_of (by first | rfl | assumption) (by first | assumption | exact ints_len _ | exact pairs_len _ | exact bools_len _ | (simp [ints_len, bools_len, pairs_len, part_len, *]; done) | (simp [ints_len, bools_len, pairs_len]; omega) | rfl)) rfl)) ?_)
  refine EOps_go rfl rfl (EOp_light rfl (by decide) (L_load rfl (by first | exact ld_bp (by first | rfl | assumption) ty_49 rfl | exact ld_rp ty_49 rfl | exact ld_ep (by first | rfl | assumption) (by first | assumption | exact ints_len _ | exact pairs_len _ | exact bools_len _ | (simp [ints_len, bools_len, pairs_len, part_len, *]; done) | (simp [ints_len, bools_len, pairs_len]; omega) | rfl) (by first | (first | assumption | exact ints_at (by assumption) | exact bools_at (by assumption) | exact pairs_at (by assumption) | exact ints_at (part_at (by assumption)) | exact bools_at (part_at (by assumption)) | exact pairs_at (part_at (by assumption)) | exact List.getElem?_set_self (by omega) | rfl) | ((try simp only [Int.toNat_natCast, Nat.zero_add]); first | assumption | exact ints_at (by assumption) | exact bools_at (by assumption) | exact pairs_at (by assumption) | exact ints_at (part_at (by assumption)) | exact bools_at (part_at (by assumption)) | exact pairs_at (part_at (by assumption)) | exact List.getElem?_set_self (by omega) | rfl)) ty_49 rfl)) ?_)
  refine EOps_go rfl rfl (Heavy.op (H_pcall1 rfl rfl (by decide) rfl ca_43 (c_laws_eqCracker a1 b1) (by refine cons_eq ?_ (cons_eq ?_ (rfl)) <;> first | (refine lend_whole rfl ?_; first | assumption | exact ints_len _ | exact pairs_len _ | exact bools_len _ | (simp [ints_len, bools_len, pairs_len, part_len, *]; done) | (simp [ints_len, bools_len, pairs_len]; omega) | rfl) | (refine agg_eq ?_; repeat' (first | (refine lendC_whole rfl ?_; first | assumption | exact ints_len _ | exact pairs_len _ | exact bools_len _ | (simp [ints_len, bools_len, pairs_len, part_len, *]; done) | (simp [ints_len, bools_len, pairs_len]; omega) | rfl) | refine cons_eq ?_ ?_ | rfl)) | rfl | simp [E.lend, E.lendC, E.ev, E.cv, E.get, E.fill', E.fill, AV.sh, AC.sh, Res.sh, ints_len, *]) (by rintro r S ⟨rfl, rfl⟩; exact ⟨rfl, rfl⟩) ?_))
  rintro r S ⟨rfl, rfl⟩
  refine EOps_go rfl rfl (EOp_light rfl (by decide) (Pure.light (L_not rfl rfl)) ?_)
  refine EOps_nil ?_
  refine E_cond rfl (fun hc10 => ?_) (fun hc10 => ?_)
  · refine E_seq ?_
    refine E_region' (L := [0]) rfl ?_
    refine EOps_go rfl rfl (EOp_light rfl (by decide) (Pure.light (L_assign rfl)) ?_)
    refine EOps_nil ?_
    refine E_ret ?_
    refine ⟨_, [], rfl, rfl, bool_eq ?_, rfl⟩
    simp_all
  · refine E_skip ?_
    refine E_seq ?_
    refine E_seq ?_
    refine E_region' (L := [0, 1, 2, 3, 4, 5]) rfl ?_
    refine EOps_go rfl rfl (EOp_light rfl (by decide) (Pure.light (L_field rfl fo_51_1 (by first | rfl | exact ptrOk_of (by first | rfl | assumption) (by first | assumption | exact ints_len _ | exact pairs_len _ | exact bools_len _ | (simp [ints_len, bools_len, pairs_len, part_len, *]; done) | (simp [ints_len, bools_len, pairs_len]; omega) | rfl)) rfl)) ?_)
    refine EOps_go rfl rfl (EOp_light rfl (by decide) (L_load rfl (by first | exact ld_bp (by first | rfl | assumption) ty_35 rfl | exact ld_rp ty_35 rfl | exact ld_ep (by first | rfl | assumption) (by first | assumption | exact ints_len _ | exact pairs_len _ | exact bools_len _ | (simp [ints_len, bools_len, pairs_len, part_len, *]; done) | (simp [ints_len, bools_len, pairs_len]; omega) | rfl) (by first | (first | assumption | exact ints_at (by assumption) | exact bools_at (by assumption) | exact pairs_at (by assumption) | exact ints_at (part_at (by assumption)) | exact bools_at (part_at (by assumption)) | exact pairs_at (part_at (by assumption)) | exact List.getElem?_set_self (by omega) | rfl) | ((try simp only [Int.toNat_natCast, Nat.zero_add]); first | assumption | exact ints_at (by assumption) | exact bools_at (by assumption) | exact pairs_at (by assumption) | exact ints_at (part_at (by assumption)) | exact bools_at (part_at (by assumption)) | exact pairs_at (part_at (by assumption)) | exact List.getElem?_set_self (by omega) | rfl)) ty_35 rfl)) ?_)
    refine EOps_go rfl rfl (EOp_light rfl (by decide) (Pure.light (L_field rfl fo_51_1 (by first | rfl | exact ptrOk_of (by first | rfl | assumption) (by first | assumption | exact ints_len _ | exact pairs_len _ | exact bools_len _ | (simp [ints_len, bools_len, pairs_len, part_len, *]; done) | (simp [ints_len, bools_len, pairs_len]; omega) | rfl)) rfl)) ?_)
    refine EOps_go rfl rfl (EOp_light rfl (by decide) (L_load rfl (by first | exact ld_bp (by first | rfl | assumption) ty_35 rfl | exact ld_rp ty_35 rfl | exact ld_ep (by first | rfl | assumption) (by first | assumption | exact ints_len _ | exact pairs_len _ | exact bools_len _ | (simp [ints_len, bools_len, pairs_len, part_len, *]; done) | (simp [ints_len, bools_len, pairs_len]; omega) | rfl) (by first | (first | assumption | exact ints_at (by assumption) | exact bools_at (by assumption) | exact pairs_at (by assumption) | exact ints_at (part_at (by assumption)) | exact bools_at (part_at (by assumption)) | exact pairs_at (part_at (by assumption)) | exact List.getElem?_set_self (by omega) | rfl) | ((try simp only [Int.toNat_natCast, Nat.zero_add]); first | assumption | exact ints_at (by assumption) | exact bools_at (by assumption) | exact pairs_at (by assumption) | exact ints_at (part_at (by assumption)) | exact bools_at (part_at (by assumption)) | exact pairs_at (part_at (by assumption)) | exact List.getElem?_set_self (by omega) | rfl)) ty_35 rfl)) ?_)
    refine EOps_go rfl rfl (Heavy.op (H_pcall1 rfl rfl (by decide) rfl ca_24 (c_laws_eqIntS a2 b2) (by refine cons_eq ?_ (cons_eq ?_ (rfl)) <;> first | (refine lend_whole rfl ?_; first | assumption | exact ints_len _ | exact pairs_len _ | exact bools_len _ | (simp [ints_len, bools_len, pairs_len, part_len, *]; done) | (simp [ints_len, bools_len, pairs_len]; omega) | rfl) | (refine agg_eq ?_; repeat' (first | (refine lendC_whole rfl ?_; first | assumption | exact ints_len _ | exact pairs_len _ | exact bools_len _ | (simp [ints_len, bools_len, pairs_len, part_len, *]; done) | (simp [ints_len, bools_len, pairs_len]; omega) | rfl) | refine cons_eq ?_ ?_ | rfl)) | rfl | simp [E.lend, E.lendC, E.ev, E.cv, E.get, E.fill', E.fill, AV.sh, AC.sh, Res.sh, ints_len, *]) (by rintro r S ⟨rfl, rfl⟩; exact ⟨rfl, rfl⟩) ?_))
    rintro r S ⟨rfl, rfl⟩
    refine EOps_go rfl rfl (EOp_light rfl (by decide) (Pure.light (L_not rfl rfl)) ?_)
    refine EOps_nil ?_
    refine E_cond rfl (fun hc16 => ?_) (fun hc16 => ?_)
    · refine E_seq ?_
      refine E_region' (L := [0]) rfl ?_
      refine EOps_go rfl rfl (EOp_light rfl (by decide) (Pure.light (L_assign rfl)) ?_)
      refine EOps_nil ?_
      refine E_ret ?_
      refine ⟨_, [], rfl, rfl, bool_eq ?_, rfl⟩
      simp_all
    · refine E_skip ?_
      refine E_seq ?_
      refine E_seq ?_
      refine E_region' (L := [0, 1, 2, 3, 4]) rfl ?_
      refine EOps_go rfl rfl (EOp_light rfl (by decide) (Pure.light (L_field rfl fo_51_2 (by first | rfl | exact ptrOk_of (by first | rfl | assumption) (by first | assumption | exact ints_len _ | exact pairs_len _ | exact bools_len _ | (simp [ints_len, bools_len, pairs_len, part_len, *]; done) | (simp [ints_len, bools_len, pairs_len]; omega) | rfl)) rfl)) ?_)
      refine EOps_go rfl rfl (EOp_light rfl (by decide) (L_load rfl (by first | exact ld_bp (by first | rfl | assumption) ty_3 rfl | exact ld_rp ty_3 rfl | exact ld_ep (by first | rfl | assumption) (by first | assumption | exact ints_len _ | exact pairs_len _ | exact bools_len _ | (simp [ints_len, bools_len, pairs_len, part_len, *]; done) | (simp [ints_len, bools_len, pairs_len]; omega) | rfl) (by first | (first | assumption | exact ints_at (by assumption) | exact bools_at (by assumption) | exact pairs_at (by assumption) | exact ints_at (part_at (by assumption)) | exact bools_at (part_at (by assumption)) | exact pairs_at (part_at (by assumption)) | exact List.getElem?_set_self (by omega) | rfl) | ((try simp only [Int.toNat_natCast, Nat.zero_add]); first | assumption | exact ints_at (by assumption) | exact bools_at (by assumption) | exact pairs_at (by assumption) | exact ints_at (part_at (by assumption)) | exact bools_at (part_at (by assumption)) | exact pairs_at (part_at (by assumption)) | exact List.getElem?_set_self (by omega) | rfl)) ty_3 rfl)) ?_)
      refine EOps_go rfl rfl (EOp_light rfl (by decide) (Pure.light (L_field rfl fo_51_2 (by first | rfl | exact ptrOk_of (by first | rfl | assumption) (by first | assumption | exact ints_len _ | exact pairs_len _ | exact bools_len _ | (simp [ints_len, bools_len, pairs_len, part_len, *]; done) | (simp [ints_len, bools_len, pairs_len]; omega) | rfl)) rfl)) ?_)
      refine EOps_go rfl rfl (EOp_light rfl (by decide) (L_load rfl (by first | exact ld_bp (by first | rfl | assumption) ty_3 rfl | exact ld_rp ty_3 rfl | exact ld_ep (by first | rfl | assumption) (by first | assumption | exact ints_len _ | exact pairs_len _ | exact bools_len _ | (simp [ints_len, bools_len, pairs_len, part_len, *]; done) | (simp [ints_len, bools_len, pairs_len]; omega) | rfl) (by first | (first | assumption | exact ints_at (by assumption) | exact bools_at (by assumption) | exact pairs_at (by assumption) | exact ints_at (part_at (by assumption)) | exact bools_at (part_at (by assumption)) | exact pairs_at (part_at (by assumption)) | exact List.getElem?_set_self (by omega) | rfl) | ((try simp only [Int.toNat_natCast, Nat.zero_add]); first | assumption | exact ints_at (by assumption) | exact bools_at (by assumption) | exact pairs_at (by assumption) | exact ints_at (part_at (by assumption)) | exact bools_at (part_at (by assumption)) | exact pairs_at (part_at (by assumption)) | exact List.getElem?_set_self (by omega) | rfl)) ty_3 rfl)) ?_)
      refine EOps_go rfl rfl (EOp_light rfl (by decide) (Pure.light (L_bin rfl rfl rfl rfl)) ?_)
      refine EOps_nil ?_
      refine E_cond rfl (fun hc21 => ?_) (fun hc21 => ?_)
      · refine E_seq ?_
        refine E_region' (L := [0]) rfl ?_
        refine EOps_go rfl rfl (EOp_light rfl (by decide) (Pure.light (L_assign rfl)) ?_)
        refine EOps_nil ?_
        refine E_ret ?_
        refine ⟨_, [], rfl, rfl, bool_eq ?_, rfl⟩
        simp_all
      · refine E_skip ?_
        refine E_seq ?_
        refine E_region' (L := [0]) rfl ?_
        refine EOps_go rfl rfl (EOp_light rfl (by decide) (Pure.light (L_assign rfl)) ?_)
        refine EOps_nil ?_
        refine E_ret ?_
        refine ⟨_, [], rfl, rfl, bool_eq ?_, rfl⟩
        simp_all

end Go.Proofs.Ytpcnpmeimemeaaa.E
