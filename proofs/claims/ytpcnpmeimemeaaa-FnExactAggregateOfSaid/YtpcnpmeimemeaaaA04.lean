/- Walks through functions, by program out of the session's annotations. -/
import Derived.Test.YtpcnpmeimemeaaaA03
namespace Go.Proofs.Ytpcnpmeimemeaaa.E
open Go Go.RowKit Go.Proofs
set_option linter.unusedVariables false
set_option linter.unusedSimpArgs false

set_option maxRecDepth 20000 in
set_option maxHeartbeats 2000000 in
theorem c_laws_FnExactAggregateOf (xs : List Int) : EFn Try.prog 5 [.c (.ro (ints xs))] [] (fun r S => r = .c (.sc (.bool true)) ∧ S = []) := by
  refine E_fn Try.func5 rfl (Nat.le_of_ble_eq_true rfl) ?_
  refine E_seq ?_
  refine E_region' (L := [0]) rfl ?_
  refine EOps_go rfl rfl (EOp_light rfl (by decide) (Pure.light (L_assign rfl)) ?_)
  refine EOps_nil ?_
  refine E_seq ?_
  refine E_seq ?_
  refine E_region' (L := [0, 1, 2]) rfl ?_
  refine EOps_go rfl rfl (EOp_light rfl (by decide) (Pure.light (L_move rfl)) ?_)
  refine EOps_go rfl rfl (EOp_light rfl (by decide) (Pure.light (L_len rfl sl_35 rfl (by first | rfl | simp [slOk]))) ?_)
  refine EOps_go rfl rfl (EOp_light rfl (by decide) (Pure.light (L_bin rfl rfl rfl rfl)) ?_)
  refine EOps_nil ?_
  refine E_cond rfl (fun hc8 => ?_) (fun hc8 => ?_)
  · refine E_seq ?_
    refine E_region' (L := [0]) rfl ?_
    refine EOps_go rfl rfl (EOp_light rfl (by decide) (Pure.light (L_assign rfl)) ?_)
    refine EOps_nil ?_
    refine E_ret ?_
    refine ⟨_, [], rfl, rfl, ?_, rfl⟩
    simp [AV.ren, ren_sc, ren_ro, AC.ren, AC.ren.rens, ix, rv1, E.get, E.ev, E.cv, E.fill', E.fill, E.slotsOf, *]
  · have hn : xs.length ≤ 1048576 := by simp [ints_len] at hc8; omega
    refine E_skip ?_
    refine E_seq ?_
    refine E_region' (L := [0, 1, 2, 3, 4]) rfl ?_
    refine EOps_go rfl rfl (EOp_light rfl (by decide) (Pure.light (L_move rfl)) ?_)
    refine EOps_go rfl rfl (Heavy.op (H_pcall' rfl (by intro d hd; cases hd; decide) rfl ca_22 (c_laws_toIntS xs hn) (by first | rfl | (refine cons_eq ?_ (rfl) <;> first | rfl | exact lend_whole rfl (by first | rfl | assumption | (simp [ints_len, bools_len, pairs_len, part_len, *]; done) | (simp [ints_len, bools_len, pairs_len]; omega)) | simp [E.lend, E.lendC, E.ev, E.cv, E.get, E.fill', E.fill, AV.sh, AC.sh, Res.sh, ints_len, *])) (by rintro r S ⟨rfl, rfl⟩; exact ⟨rfl, rfl⟩) ?_))
    rintro r S ⟨rfl, rfl⟩
    refine EOps_go rfl rfl (Heavy.op (H_pcall' rfl (by intro d hd; cases hd; decide) rfl ca_21 (c_spec_AggregateOf xs) (by first | rfl | (refine cons_eq ?_ (rfl) <;> first | rfl | exact lend_whole rfl (by first | rfl | assumption | (simp [ints_len, bools_len, pairs_len, part_len, *]; done) | (simp [ints_len, bools_len, pairs_len]; omega)) | simp [E.lend, E.lendC, E.ev, E.cv, E.get, E.fill', E.fill, AV.sh, AC.sh, Res.sh, ints_len, *])) (by rintro r S ⟨rfl, rfl⟩; exact ⟨rfl, rfl⟩) ?_))
    rintro r S ⟨rfl, rfl⟩
    refine EOps_go rfl rfl (EOp_alloc rfl rfl (by decide) za_30 ?_)
    refine EOps_go rfl rfl (EOp_store rfl rfl rfl (by first | exact st_bp (by first | rfl | assumption) ty_30 rfl (Nat.le_of_ble_eq_true rfl) | exact st_ep rfl (by first | rfl | assumption | (simp [ints_len, bools_len, pairs_len, part_len, *]; done) | (simp [ints_len, bools_len, pairs_len]; omega)) (by first | (first | assumption | exact ints_at (by assumption) | exact bools_at (by assumption) | exact pairs_at (by assumption) | exact ints_at (part_at (by assumption)) | exact bools_at (part_at (by assumption)) | exact pairs_at (part_at (by assumption)) | rfl) | ((try simp only [Int.toNat_natCast, Nat.zero_add]); first | assumption | exact ints_at (by assumption) | exact bools_at (by assumption) | exact pairs_at (by assumption) | exact ints_at (part_at (by assumption)) | exact bools_at (part_at (by assumption)) | exact pairs_at (part_at (by assumption)) | rfl)) ty_30 rfl rfl (by decide) rfl) ?_)
    refine EOps_nil ?_
    refine E_seq ?_
    refine E_region' (L := [0, 1, 2]) rfl ?_
    refine EOps_go rfl rfl (EOp_light rfl (by decide) (Pure.light (L_move rfl)) ?_)
    refine EOps_go rfl rfl (Heavy.op (H_pcall' rfl (by intro d hd; cases hd; decide) rfl ca_22 (c_laws_toIntS xs hn) (by first | rfl | (refine cons_eq ?_ (rfl) <;> first | rfl | exact lend_whole rfl (by first | rfl | assumption | (simp [ints_len, bools_len, pairs_len, part_len, *]; done) | (simp [ints_len, bools_len, pairs_len]; omega)) | simp [E.lend, E.lendC, E.ev, E.cv, E.get, E.fill', E.fill, AV.sh, AC.sh, Res.sh, ints_len, *])) (by rintro r S ⟨rfl, rfl⟩; exact ⟨rfl, rfl⟩) ?_))
    rintro r S ⟨rfl, rfl⟩
    refine EOps_go rfl rfl (EOp_light rfl (by decide) (Pure.light (L_assign rfl)) ?_)
    refine EOps_nil ?_
    refine E_seq ?_
    refine E_region' (L := [0, 1, 2, 3]) rfl ?_
    refine EOps_go rfl rfl (EOp_light rfl (by decide) (Pure.light (L_move rfl)) ?_)
    refine EOps_go rfl rfl (Heavy.op (H_pcall' rfl (by intro d hd; cases hd; decide) rfl ca_23 (c_impl_AggregateOf xs) (by first | rfl | (refine cons_eq ?_ (rfl) <;> first | rfl | exact lend_whole rfl (by first | rfl | assumption | (simp [ints_len, bools_len, pairs_len, part_len, *]; done) | (simp [ints_len, bools_len, pairs_len]; omega)) | simp [E.lend, E.lendC, E.ev, E.cv, E.get, E.fill', E.fill, AV.sh, AC.sh, Res.sh, ints_len, *])) (by rintro r S ⟨rfl, rfl⟩; exact ⟨rfl, rfl⟩) ?_))
    rintro r S ⟨rfl, rfl⟩
    refine EOps_go rfl rfl (EOp_alloc rfl rfl (by decide) za_30 ?_)
    refine EOps_go rfl rfl (EOp_store rfl rfl rfl (by first | exact st_bp (by first | rfl | assumption) ty_30 rfl (Nat.le_of_ble_eq_true rfl) | exact st_ep rfl (by first | rfl | assumption | (simp [ints_len, bools_len, pairs_len, part_len, *]; done) | (simp [ints_len, bools_len, pairs_len]; omega)) (by first | (first | assumption | exact ints_at (by assumption) | exact bools_at (by assumption) | exact pairs_at (by assumption) | exact ints_at (part_at (by assumption)) | exact bools_at (part_at (by assumption)) | exact pairs_at (part_at (by assumption)) | rfl) | ((try simp only [Int.toNat_natCast, Nat.zero_add]); first | assumption | exact ints_at (by assumption) | exact bools_at (by assumption) | exact pairs_at (by assumption) | exact ints_at (part_at (by assumption)) | exact bools_at (part_at (by assumption)) | exact pairs_at (part_at (by assumption)) | rfl)) ty_30 rfl rfl (by decide) rfl) ?_)
    refine EOps_nil ?_
    refine E_seq ?_
    refine E_seq ?_
    refine E_region' (L := [0, 1, 2, 3]) rfl ?_
    refine EOps_go rfl rfl (EOp_light rfl (by decide) (L_load rfl (by first | exact ld_bp (by first | rfl | assumption) ty_30 rfl | exact ld_rp ty_30 rfl | exact ld_ep rfl (by first | rfl | assumption | (simp [ints_len, bools_len, pairs_len, part_len, *]; done) | (simp [ints_len, bools_len, pairs_len]; omega)) (by first | (first | assumption | exact ints_at (by assumption) | exact bools_at (by assumption) | exact pairs_at (by assumption) | exact ints_at (part_at (by assumption)) | exact bools_at (part_at (by assumption)) | exact pairs_at (part_at (by assumption)) | rfl) | ((try simp only [Int.toNat_natCast, Nat.zero_add]); first | assumption | exact ints_at (by assumption) | exact bools_at (by assumption) | exact pairs_at (by assumption) | exact ints_at (part_at (by assumption)) | exact bools_at (part_at (by assumption)) | exact pairs_at (part_at (by assumption)) | rfl)) ty_30 rfl)) ?_)
    refine EOps_go rfl rfl (EOp_light rfl (by decide) (L_load rfl (by first | exact ld_bp (by first | rfl | assumption) ty_30 rfl | exact ld_rp ty_30 rfl | exact ld_ep rfl (by first | rfl | assumption | (simp [ints_len, bools_len, pairs_len, part_len, *]; done) | (simp [ints_len, bools_len, pairs_len]; omega)) (by first | (first | assumption | exact ints_at (by assumption) | exact bools_at (by assumption) | exact pairs_at (by assumption) | exact ints_at (part_at (by assumption)) | exact bools_at (part_at (by assumption)) | exact pairs_at (part_at (by assumption)) | rfl) | ((try simp only [Int.toNat_natCast, Nat.zero_add]); first | assumption | exact ints_at (by assumption) | exact bools_at (by assumption) | exact pairs_at (by assumption) | exact ints_at (part_at (by assumption)) | exact bools_at (part_at (by assumption)) | exact pairs_at (part_at (by assumption)) | rfl)) ty_30 rfl)) ?_)
    refine EOps_go rfl rfl (Heavy.op (H_pcall' rfl (by intro d hd; cases hd; decide) rfl ca_20 (c_laws_eqAggregate (aggOf xs) (aggOf xs)) (by first | rfl | (refine cons_eq ?_ (cons_eq ?_ (rfl)) <;> first | rfl | exact lend_whole rfl (by first | rfl | assumption | (simp [ints_len, bools_len, pairs_len, part_len, *]; done) | (simp [ints_len, bools_len, pairs_len]; omega)) | simp [E.lend, E.lendC, E.ev, E.cv, E.get, E.fill', E.fill, AV.sh, AC.sh, Res.sh, ints_len, *])) (by rintro r S ⟨rfl, rfl⟩; exact ⟨rfl, rfl⟩) ?_))
    rintro r S ⟨rfl, rfl⟩
    refine EOps_go rfl rfl (EOp_light rfl (by decide) (Pure.light (L_not rfl rfl)) ?_)
    refine EOps_nil ?_
    refine E_cond rfl (fun hc19 => ?_) (fun hc19 => ?_)
    · simp at hc19
    · refine E_skip ?_
      refine E_seq ?_
      refine E_seq ?_
      refine E_region' (L := [0, 1, 2, 3, 4]) rfl ?_
      refine EOps_go rfl rfl (EOp_light rfl (by decide) (Pure.light (L_move rfl)) ?_)
      refine EOps_go rfl rfl (EOp_light rfl (by decide) (Pure.light (L_move rfl)) ?_)
      refine EOps_go rfl rfl (Heavy.op (H_pcall' rfl (by intro d hd; cases hd; decide) rfl ca_22 (c_laws_toIntS xs hn) (by first | rfl | (refine cons_eq ?_ (rfl) <;> first | rfl | exact lend_whole rfl (by first | rfl | assumption | (simp [ints_len, bools_len, pairs_len, part_len, *]; done) | (simp [ints_len, bools_len, pairs_len]; omega)) | simp [E.lend, E.lendC, E.ev, E.cv, E.get, E.fill', E.fill, AV.sh, AC.sh, Res.sh, ints_len, *])) (by rintro r S ⟨rfl, rfl⟩; exact ⟨rfl, rfl⟩) ?_))
      rintro r S ⟨rfl, rfl⟩
      refine EOps_go rfl rfl (Heavy.op (H_pcall' rfl (by intro d hd; cases hd; decide) rfl ca_24 (c_laws_eqIntS xs xs) (by first | rfl | (refine cons_eq ?_ (cons_eq ?_ (rfl)) <;> first | rfl | exact lend_whole rfl (by first | rfl | assumption | (simp [ints_len, bools_len, pairs_len, part_len, *]; done) | (simp [ints_len, bools_len, pairs_len]; omega)) | simp [E.lend, E.lendC, E.ev, E.cv, E.get, E.fill', E.fill, AV.sh, AC.sh, Res.sh, ints_len, *])) (by rintro r S ⟨rfl, rfl⟩; exact ⟨rfl, rfl⟩) ?_))
      rintro r S ⟨rfl, rfl⟩
      refine EOps_go rfl rfl (EOp_light rfl (by decide) (Pure.light (L_not rfl rfl)) ?_)
      refine EOps_nil ?_
      refine E_cond rfl (fun hc24 => ?_) (fun hc24 => ?_)
      · simp at hc24
      · refine E_skip ?_
        refine E_seq ?_
        refine E_region' (L := [0]) rfl ?_
        refine EOps_go rfl rfl (EOp_light rfl (by decide) (Pure.light (L_assign rfl)) ?_)
        refine EOps_nil ?_
        refine E_ret ?_
        refine ⟨_, [], rfl, rfl, ?_, rfl⟩
        simp [AV.ren, ren_sc, ren_ro, AC.ren, AC.ren.rens, ix, rv1, E.get, E.ev, E.cv, E.fill', E.fill, E.slotsOf, *]

end Go.Proofs.Ytpcnpmeimemeaaa.E
