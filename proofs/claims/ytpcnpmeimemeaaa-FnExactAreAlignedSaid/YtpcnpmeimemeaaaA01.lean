/- Walks through functions, by program out of the session's annotations. -/
import Derived.Test.YtpcnpmeimemeaaaETab
import Derived.Test.YtpcnpmeimemeaaaE12
namespace Go.Proofs.Ytpcnpmeimemeaaa.E
open Go Go.RowKit Go.Proofs
set_option linter.unusedVariables false
set_option linter.unusedSimpArgs false

set_option maxRecDepth 20000 in
set_option maxHeartbeats 2000000 in
theorem c_laws_toIntS (xs : List Int) (hn : xs.length ≤ 1048576) : EFn Try.prog 22 [.c (.ro (ints xs))] [] (fun r S => r = .c (.sl 0 0 xs.length xs.length) ∧ S = [.row 3 1 (ints xs)]) := by
  refine E_fn Try.func22 rfl (Nat.le_of_ble_eq_true rfl) ?_
  refine E_seq ?_
  refine E_region' (L := [0]) rfl ?_
  refine EOps_go rfl rfl (EOp_light rfl (by decide) (Pure.light (L_assign rfl)) ?_)
  refine EOps_nil ?_
  refine E_seq ?_
  refine E_region' (L := [0, 1, 2, 3]) rfl ?_
  refine EOps_go rfl rfl (EOp_light rfl (by decide) (Pure.light (L_move rfl)) ?_)
  refine EOps_go rfl rfl (EOp_light rfl (by decide) (Pure.light (L_len rfl sl_35 rfl (by first | rfl | exact slOk_of (by first | rfl | assumption) (by first | assumption | exact ints_len _ | exact pairs_len _ | exact bools_len _ | (simp [ints_len, bools_len, pairs_len, part_len, *]; done) | (simp [ints_len, bools_len, pairs_len]; omega) | rfl)))) ?_)
  refine EOps_go rfl rfl (Heavy.op (H_make rfl rfl (by decide) rfl rfl sl_35 ty_3 by_3 za_3 ⟨rfl, by decide⟩ (by simp [ints_len]; omega) ?_))
  refine EOps_go rfl rfl (EOp_light rfl (by decide) (Pure.light (L_assign rfl)) ?_)
  refine EOps_nil ?_
  refine E_seq ?_
  refine E_seq ?_
  refine E_region' (L := [0]) rfl ?_
  refine EOps_go rfl rfl (EOp_light rfl (by decide) (Pure.light (L_assign rfl)) ?_)
  refine EOps_nil ?_
  refine E_block ?_
  refine E_for (α := Nat) [0, 2, 3] (fun k => [(4, .c (.sc (.int .i64 (k))))]) (fun k => [.row 3 1 (ints (part xs 0 k))]) (fun k => k ≤ xs.length) (fun k => xs.length - k) (0) (by simp only [E.keepOf, E.get, E.ev, E.cv, E.fill', E.fill, E.slotsOf, Res.sh, AC.sh, AC.sh.shs, AV.sh, E.splice, List.map_cons, List.map_nil, List.cons_append, List.nil_append, List.append_nil, List.length_cons, List.length_nil, List.take_zero, List.drop_zero, List.take_succ_cons, List.drop_succ_cons, List.drop_nil, List.take_nil, List.set_cons_zero, List.set_cons_succ, Nat.zero_add, Nat.add_zero, Nat.reduceAdd, Nat.reduceSub, reduceIte, Nat.reduceEqDiff, E.back, E.backR, E.ix, Res.un, AC.un, AC.un.uns, AV.un, E.un, Option.map_some, Option.map_none, Option.getD_some, List.getElem?_cons_zero, List.getElem?_cons_succ, List.getElem?_nil]; rfl) ?_ (by simp [zT, ints_len, ints_rep, part_zero]) ⟨.inr rfl, trivial⟩ ?_
  · simp
  rintro k hI
  refine E_seq ?_
  refine E_seq ?_
  refine E_region' (L := [0, 1, 2, 3]) rfl ?_
  refine EOps_go rfl rfl (EOp_light rfl (by decide) (Pure.light (L_move rfl)) ?_)
  refine EOps_go rfl rfl (EOp_light rfl (by decide) (Pure.light (L_move rfl)) ?_)
  refine EOps_go rfl rfl (EOp_light rfl (by decide) (Pure.light (L_len rfl sl_35 rfl (by first | rfl | exact slOk_of (by first | rfl | assumption) (by first | assumption | exact ints_len _ | exact pairs_len _ | exact bools_len _ | (simp [ints_len, bools_len, pairs_len, part_len, *]; done) | (simp [ints_len, bools_len, pairs_len]; omega) | rfl)))) ?_)
  refine EOps_go rfl rfl (EOp_light rfl (by decide) (Pure.light (L_bin rfl rfl rfl rfl)) ?_)
  refine EOps_nil ?_
  refine E_cond rfl (fun hc11 => ?_) (fun hc11 => ?_)
  · have hc11' : k < (xs).length := by simpa [ints_len, bools_len, pairs_len] using hc11
    obtain ⟨x, hx⟩ : ∃ x, (xs)[k]? = some x := ⟨_, List.getElem?_eq_getElem hc11'⟩
    refine E_skip ?_
    refine E_seq ?_
    refine E_block ?_
    refine E_region' (L := [0, 1, 2, 3, 4, 5, 6, 7]) rfl ?_
    refine EOps_go rfl rfl (EOp_light rfl (by decide) (Pure.light (L_move rfl)) ?_)
    refine EOps_go rfl rfl (EOp_light rfl (by decide) (Pure.light (L_move rfl)) ?_)
    refine EOps_go rfl rfl (EOp_light rfl (by decide) (Pure.light (L_move rfl)) ?_)
    refine EOps_go rfl rfl (EOp_light rfl (by decide) (Pure.light (L_move rfl)) ?_)
    refine EOps_go rfl rfl (EOp_light rfl (by decide) (Pure.light (L_index rfl rfl (by first | exact iav_ro sl_35 ty_3 (by omega) (by first | (first | assumption | exact ints_at (by assumption) | exact bools_at (by assumption) | exact pairs_at (by assumption) | exact ints_at (part_at (by assumption)) | exact bools_at (part_at (by assumption)) | exact pairs_at (part_at (by assumption)) | exact List.getElem?_set_self (by omega) | rfl) | ((try simp only [Int.toNat_natCast, Nat.zero_add]); first | assumption | exact ints_at (by assumption) | exact bools_at (by assumption) | exact pairs_at (by assumption) | exact ints_at (part_at (by assumption)) | exact bools_at (part_at (by assumption)) | exact pairs_at (part_at (by assumption)) | exact List.getElem?_set_self (by omega) | rfl)) rfl | exact iav_sl sl_35 ty_3 (by omega) (by first | rfl | assumption) (by first | assumption | exact ints_len _ | exact pairs_len _ | exact bools_len _ | (simp [ints_len, bools_len, pairs_len, part_len, *]; done) | (simp [ints_len, bools_len, pairs_len]; omega) | rfl) (by first | omega | (simp [ints_len, bools_len, pairs_len]; omega))))) ?_)
    refine EOps_go rfl rfl (EOp_light rfl (by decide) (L_load rfl (by first | exact ld_bp (by first | rfl | assumption) ty_3 rfl | exact ld_rp ty_3 rfl | exact ld_ep (by first | rfl | assumption) (by first | assumption | exact ints_len _ | exact pairs_len _ | exact bools_len _ | (simp [ints_len, bools_len, pairs_len, part_len, *]; done) | (simp [ints_len, bools_len, pairs_len]; omega) | rfl) (by first | (first | assumption | exact ints_at (by assumption) | exact bools_at (by assumption) | exact pairs_at (by assumption) | exact ints_at (part_at (by assumption)) | exact bools_at (part_at (by assumption)) | exact pairs_at (part_at (by assumption)) | exact List.getElem?_set_self (by omega) | rfl) | ((try simp only [Int.toNat_natCast, Nat.zero_add]); first | assumption | exact ints_at (by assumption) | exact bools_at (by assumption) | exact pairs_at (by assumption) | exact ints_at (part_at (by assumption)) | exact bools_at (part_at (by assumption)) | exact pairs_at (part_at (by assumption)) | exact List.getElem?_set_self (by omega) | rfl)) ty_3 rfl)) ?_)
    refine EOps_go rfl rfl (EOp_light rfl (by decide) (Pure.light (L_index rfl rfl (by first | exact iav_ro sl_35 ty_3 (by omega) (by first | (first | assumption | exact ints_at (by assumption) | exact bools_at (by assumption) | exact pairs_at (by assumption) | exact ints_at (part_at (by assumption)) | exact bools_at (part_at (by assumption)) | exact pairs_at (part_at (by assumption)) | exact List.getElem?_set_self (by omega) | rfl) | ((try simp only [Int.toNat_natCast, Nat.zero_add]); first | assumption | exact ints_at (by assumption) | exact bools_at (by assumption) | exact pairs_at (by assumption) | exact ints_at (part_at (by assumption)) | exact bools_at (part_at (by assumption)) | exact pairs_at (part_at (by assumption)) | exact List.getElem?_set_self (by omega) | rfl)) rfl | exact iav_sl sl_35 ty_3 (by omega) (by first | rfl | assumption) (by first | assumption | exact ints_len _ | exact pairs_len _ | exact bools_len _ | (simp [ints_len, bools_len, pairs_len, part_len, *]; done) | (simp [ints_len, bools_len, pairs_len]; omega) | rfl) (by first | omega | (simp [ints_len, bools_len, pairs_len]; omega))))) ?_)
    refine EOps_go rfl rfl (EOp_store rfl rfl rfl (by first | exact st_bp (by first | rfl | assumption) ty_3 rfl (Nat.le_of_ble_eq_true rfl) | exact st_ep (by first | rfl | assumption) (by first | assumption | exact ints_len _ | exact pairs_len _ | exact bools_len _ | (simp [ints_len, bools_len, pairs_len, part_len, *]; done) | (simp [ints_len, bools_len, pairs_len]; omega) | rfl) (by first | (first | assumption | exact ints_at (by assumption) | exact bools_at (by assumption) | exact pairs_at (by assumption) | exact ints_at (part_at (by assumption)) | exact bools_at (part_at (by assumption)) | exact pairs_at (part_at (by assumption)) | exact List.getElem?_set_self (by omega) | rfl) | ((try simp only [Int.toNat_natCast, Nat.zero_add]); first | assumption | exact ints_at (by assumption) | exact bools_at (by assumption) | exact pairs_at (by assumption) | exact ints_at (part_at (by assumption)) | exact bools_at (part_at (by assumption)) | exact pairs_at (part_at (by assumption)) | exact List.getElem?_set_self (by omega) | rfl)) ty_3 rfl rfl (by decide) rfl) ?_)
    refine EOps_nil ?_
    refine E_region' (L := [0, 1, 2]) rfl ?_
    refine EOps_go rfl rfl (EOp_light rfl (by decide) (Pure.light (L_move rfl)) ?_)
    refine EOps_go rfl rfl (EOp_light rfl (by decide) (Pure.light (by first | exact L_add rfl rfl rfl (by constructor <;> first | omega | (dsimp only; omega) | (simp [ints_len, pairs_len, bools_len]; omega)) | exact L_bin rfl rfl rfl rfl)) ?_)
    refine EOps_go rfl rfl (EOp_light rfl (by decide) (Pure.light (L_assign rfl)) ?_)
    refine EOps_nil ?_
    refine ⟨k + 1, ?_, ?_, by simp [ints_set, part_set hx, splice, act], ⟨.inr rfl, trivial⟩, ⟨.inr rfl, .inr rfl, .inr rfl, trivial⟩⟩
    · first | omega | (dsimp only; omega) | (simp; omega)
    · first | trivial | omega | (dsimp only; omega) | (simp; omega)
  · have hk : xs.length ≤ k := by simpa [ints_len] using hc11
    refine E_exit ?_
    refine E_seq ?_
    refine E_region' (L := [0, 1]) rfl ?_
    refine EOps_go rfl rfl (EOp_light rfl (by decide) (Pure.light (L_move rfl)) ?_)
    refine EOps_go rfl rfl (EOp_light rfl (by decide) (Pure.light (L_assign rfl)) ?_)
    refine EOps_nil ?_
    refine E_ret ?_
    refine ⟨_, [0], rfl, rfl, ?_, ?_⟩
    · simp [AV.ren, ren_sc, ren_ro, AC.ren, AC.ren.rens, ix, rv1, E.get, E.ev, E.cv, E.fill', E.fill, E.slotsOf, ints_len]
    · simp [reR, Res.ren, part_full xs 0 hk]

set_option maxRecDepth 20000 in
set_option maxHeartbeats 2000000 in
theorem c_laws_eqIntS (xs ys : List Int) : EFn Try.prog 24 [.c (.ro (ints xs)), .c (.ro (ints ys))] [] (fun r S => r = .c (.sc (.bool (decide (xs = ys)))) ∧ S = []) := by
  refine E_fn Try.func24 rfl (Nat.le_of_ble_eq_true rfl) ?_
  refine E_bound (t := 0) (rows := ints xs) rfl fun hb => ?_
  rw [ints_len] at hb
  refine E_seq ?_
  refine E_region' (L := [0]) rfl ?_
  refine EOps_go rfl rfl (EOp_light rfl (by decide) (Pure.light (L_assign rfl)) ?_)
  refine EOps_nil ?_
  refine E_seq ?_
  refine E_seq ?_
  refine E_region' (L := [0, 1, 2, 3, 4]) rfl ?_
  refine EOps_go rfl rfl (EOp_light rfl (by decide) (Pure.light (L_move rfl)) ?_)
  refine EOps_go rfl rfl (EOp_light rfl (by decide) (Pure.light (L_len rfl sl_35 rfl (by first | rfl | exact slOk_of (by first | rfl | assumption) (by first | assumption | exact ints_len _ | exact pairs_len _ | exact bools_len _ | (simp [ints_len, bools_len, pairs_len, part_len, *]; done) | (simp [ints_len, bools_len, pairs_len]; omega) | rfl)))) ?_)
  refine EOps_go rfl rfl (EOp_light rfl (by decide) (Pure.light (L_move rfl)) ?_)
  refine EOps_go rfl rfl (EOp_light rfl (by decide) (Pure.light (L_len rfl sl_35 rfl (by first | rfl | exact slOk_of (by first | rfl | assumption) (by first | assumption | exact ints_len _ | exact pairs_len _ | exact bools_len _ | (simp [ints_len, bools_len, pairs_len, part_len, *]; done) | (simp [ints_len, bools_len, pairs_len]; omega) | rfl)))) ?_)
  refine EOps_go rfl rfl (EOp_light rfl (by decide) (Pure.light (L_bin rfl rfl rfl rfl)) ?_)
  refine EOps_nil ?_
  refine E_cond rfl (fun hc10 => ?_) (fun hc10 => ?_)
  · have hne : xs ≠ ys := fun e => by subst e; simp at hc10
    refine E_seq ?_
    refine E_region' (L := [0]) rfl ?_
    refine EOps_go rfl rfl (EOp_light rfl (by decide) (Pure.light (L_assign rfl)) ?_)
    refine EOps_nil ?_
    refine E_ret ?_
    refine ⟨_, [], rfl, rfl, ?_, rfl⟩
    simp [AV.ren, ren_sc, ren_ro, AC.ren, AC.ren.rens, ix, rv1, E.get, E.ev, E.cv, E.fill', E.fill, E.slotsOf, hne]
  · have hlen : xs.length = ys.length := by simp [ints_len] at hc10; omega
    refine E_skip ?_
    refine E_seq ?_
    refine E_seq ?_
    refine E_region' (L := [0]) rfl ?_
    refine EOps_go rfl rfl (EOp_light rfl (by decide) (Pure.light (L_assign rfl)) ?_)
    refine EOps_nil ?_
    refine E_block ?_
    refine E_for (α := Nat) [0, 1, 10] (fun k => [(5, .c (.sc (.int .i64 (k))))]) (fun _ => _) (fun k => k ≤ xs.length ∧ xs.take k = ys.take k) (fun k => xs.length - k) (0) (by simp only [E.keepOf, E.get, E.ev, E.cv, E.fill', E.fill, E.slotsOf, Res.sh, AC.sh, AC.sh.shs, AV.sh, E.splice, List.map_cons, List.map_nil, List.cons_append, List.nil_append, List.append_nil, List.length_cons, List.length_nil, List.take_zero, List.drop_zero, List.take_succ_cons, List.drop_succ_cons, List.drop_nil, List.take_nil, List.set_cons_zero, List.set_cons_succ, Nat.zero_add, Nat.add_zero, Nat.reduceAdd, Nat.reduceSub, reduceIte, Nat.reduceEqDiff, E.back, E.backR, E.ix, Res.un, AC.un, AC.un.uns, AV.un, E.un, Option.map_some, Option.map_none, Option.getD_some, List.getElem?_cons_zero, List.getElem?_cons_succ, List.getElem?_nil]; rfl) ?_ (rfl) ⟨.inr rfl, trivial⟩ ?_
    · simp
    rintro k ⟨hk, htk⟩
    refine E_seq ?_
    refine E_seq ?_
    refine E_region' (L := [0, 1, 2, 3]) rfl ?_
    refine EOps_go rfl rfl (EOp_light rfl (by decide) (Pure.light (L_move rfl)) ?_)
    refine EOps_go rfl rfl (EOp_light rfl (by decide) (Pure.light (L_move rfl)) ?_)
    refine EOps_go rfl rfl (EOp_light rfl (by decide) (Pure.light (L_len rfl sl_35 rfl (by first | rfl | exact slOk_of (by first | rfl | assumption) (by first | assumption | exact ints_len _ | exact pairs_len _ | exact bools_len _ | (simp [ints_len, bools_len, pairs_len, part_len, *]; done) | (simp [ints_len, bools_len, pairs_len]; omega) | rfl)))) ?_)
    refine EOps_go rfl rfl (EOp_light rfl (by decide) (Pure.light (L_bin rfl rfl rfl rfl)) ?_)
    refine EOps_nil ?_
    refine E_cond rfl (fun hc14 => ?_) (fun hc14 => ?_)
    · have hc14' : k < (xs).length := by simpa [ints_len, bools_len, pairs_len] using hc14
      obtain ⟨x, hx⟩ : ∃ x, (xs)[k]? = some x := ⟨_, List.getElem?_eq_getElem hc14'⟩
      obtain ⟨y, hy⟩ : ∃ y, ys[k]? = some y := ⟨_, List.getElem?_eq_getElem (hlen ▸ hc14')⟩
      refine E_skip ?_
      refine E_seq ?_
      refine E_block ?_
      refine E_seq ?_
      refine E_drawT mixed ?_
      refine T_light (i := 0) rfl rfl (by kernel_rfl) (by kernel_rfl) (by kernel_rfl) rfl (by decide) (Pure.light (L_move rfl)) rfl ?_
      refine T_light (i := 1) rfl rfl (by kernel_rfl) (by kernel_rfl) (by kernel_rfl) rfl (by decide) (Pure.light (L_move rfl)) rfl ?_
      refine T_light (i := 2) rfl rfl (by kernel_rfl) (by kernel_rfl) (by kernel_rfl) rfl (by decide) (Pure.light (L_index rfl rfl (by first | exact iav_ro sl_35 ty_3 (by omega) (by first | (first | assumption | exact ints_at (by assumption) | exact bools_at (by assumption) | exact pairs_at (by assumption) | exact ints_at (part_at (by assumption)) | exact bools_at (part_at (by assumption)) | exact pairs_at (part_at (by assumption)) | exact List.getElem?_set_self (by omega) | rfl) | ((try simp only [Int.toNat_natCast, Nat.zero_add]); first | assumption | exact ints_at (by assumption) | exact bools_at (by assumption) | exact pairs_at (by assumption) | exact ints_at (part_at (by assumption)) | exact bools_at (part_at (by assumption)) | exact pairs_at (part_at (by assumption)) | exact List.getElem?_set_self (by omega) | rfl)) rfl | exact iav_sl sl_35 ty_3 (by omega) (by first | rfl | assumption) (by first | assumption | exact ints_len _ | exact pairs_len _ | exact bools_len _ | (simp [ints_len, bools_len, pairs_len, part_len, *]; done) | (simp [ints_len, bools_len, pairs_len]; omega) | rfl) (by first | omega | (simp [ints_len, bools_len, pairs_len]; omega))))) rfl ?_
      refine T_light (i := 3) rfl rfl (by kernel_rfl) (by kernel_rfl) (by kernel_rfl) rfl (by decide) (L_load rfl (by first | exact ld_bp (by first | rfl | assumption) ty_3 rfl | exact ld_rp ty_3 rfl | exact ld_ep (by first | rfl | assumption) (by first | assumption | exact ints_len _ | exact pairs_len _ | exact bools_len _ | (simp [ints_len, bools_len, pairs_len, part_len, *]; done) | (simp [ints_len, bools_len, pairs_len]; omega) | rfl) (by first | (first | assumption | exact ints_at (by assumption) | exact bools_at (by assumption) | exact pairs_at (by assumption) | exact ints_at (part_at (by assumption)) | exact bools_at (part_at (by assumption)) | exact pairs_at (part_at (by assumption)) | exact List.getElem?_set_self (by omega) | rfl) | ((try simp only [Int.toNat_natCast, Nat.zero_add]); first | assumption | exact ints_at (by assumption) | exact bools_at (by assumption) | exact pairs_at (by assumption) | exact ints_at (part_at (by assumption)) | exact bools_at (part_at (by assumption)) | exact pairs_at (part_at (by assumption)) | exact List.getElem?_set_self (by omega) | rfl)) ty_3 rfl)) rfl ?_
      refine T_light (i := 4) rfl rfl (by kernel_rfl) (by kernel_rfl) (by kernel_rfl) rfl (by decide) (Pure.light (L_move rfl)) rfl ?_
      refine T_light (i := 5) rfl rfl (by kernel_rfl) (by kernel_rfl) (by kernel_rfl) rfl (by decide) (Pure.light (L_move rfl)) rfl ?_
      refine T_light (i := 6) rfl rfl (by kernel_rfl) (by kernel_rfl) (by kernel_rfl) rfl (by decide) (Pure.light (L_index rfl rfl (by first | exact iav_ro sl_35 ty_3 (by omega) (by first | (first | assumption | exact ints_at (by assumption) | exact bools_at (by assumption) | exact pairs_at (by assumption) | exact ints_at (part_at (by assumption)) | exact bools_at (part_at (by assumption)) | exact pairs_at (part_at (by assumption)) | exact List.getElem?_set_self (by omega) | rfl) | ((try simp only [Int.toNat_natCast, Nat.zero_add]); first | assumption | exact ints_at (by assumption) | exact bools_at (by assumption) | exact pairs_at (by assumption) | exact ints_at (part_at (by assumption)) | exact bools_at (part_at (by assumption)) | exact pairs_at (part_at (by assumption)) | exact List.getElem?_set_self (by omega) | rfl)) rfl | exact iav_sl sl_35 ty_3 (by omega) (by first | rfl | assumption) (by first | assumption | exact ints_len _ | exact pairs_len _ | exact bools_len _ | (simp [ints_len, bools_len, pairs_len, part_len, *]; done) | (simp [ints_len, bools_len, pairs_len]; omega) | rfl) (by first | omega | (simp [ints_len, bools_len, pairs_len]; omega))))) rfl ?_
      refine T_light (i := 7) rfl rfl (by kernel_rfl) (by kernel_rfl) (by kernel_rfl) rfl (by decide) (L_load rfl (by first | exact ld_bp (by first | rfl | assumption) ty_3 rfl | exact ld_rp ty_3 rfl | exact ld_ep (by first | rfl | assumption) (by first | assumption | exact ints_len _ | exact pairs_len _ | exact bools_len _ | (simp [ints_len, bools_len, pairs_len, part_len, *]; done) | (simp [ints_len, bools_len, pairs_len]; omega) | rfl) (by first | (first | assumption | exact ints_at (by assumption) | exact bools_at (by assumption) | exact pairs_at (by assumption) | exact ints_at (part_at (by assumption)) | exact bools_at (part_at (by assumption)) | exact pairs_at (part_at (by assumption)) | exact List.getElem?_set_self (by omega) | rfl) | ((try simp only [Int.toNat_natCast, Nat.zero_add]); first | assumption | exact ints_at (by assumption) | exact bools_at (by assumption) | exact pairs_at (by assumption) | exact ints_at (part_at (by assumption)) | exact bools_at (part_at (by assumption)) | exact pairs_at (part_at (by assumption)) | exact List.getElem?_set_self (by omega) | rfl)) ty_3 rfl)) rfl ?_
      refine T_light (i := 8) rfl rfl (by kernel_rfl) (by kernel_rfl) (by kernel_rfl) rfl (by decide) (Pure.light (L_bin rfl rfl rfl rfl)) rfl ?_
      refine T_done (by kernel_rfl) ?_
      refine E_cond rfl (fun hc25 => ?_) (fun hc25 => ?_)
      · have hne : xs ≠ ys := fun e => by subst e; rw [hx] at hy; cases hy; simp at hc25
        refine E_seq ?_
        refine E_region' (L := [0]) rfl ?_
        refine EOps_go rfl rfl (EOp_light rfl (by decide) (Pure.light (L_assign rfl)) ?_)
        refine EOps_nil ?_
        refine E_ret ?_
        refine ⟨_, [], rfl, rfl, ?_, rfl⟩
        simp [AV.ren, ren_sc, ren_ro, AC.ren, AC.ren.rens, ix, rv1, E.get, E.ev, E.cv, E.fill', E.fill, E.slotsOf, hne]
      · have hxy : x = y := by simpa using hc25
        refine E_skip ?_
        refine E_region' (L := [0, 1, 2]) rfl ?_
        refine EOps_go rfl rfl (EOp_light rfl (by decide) (Pure.light (L_move rfl)) ?_)
        refine EOps_go rfl rfl (EOp_light rfl (by decide) (Pure.light (by first | exact L_add rfl rfl rfl (by constructor <;> first | omega | (dsimp only; omega) | (simp [ints_len, pairs_len, bools_len]; omega)) | exact L_bin rfl rfl rfl rfl)) ?_)
        refine EOps_go rfl rfl (EOp_light rfl (by decide) (Pure.light (L_assign rfl)) ?_)
        refine EOps_nil ?_
        refine ⟨k + 1, ?_, ?_, rfl, ⟨.inr rfl, trivial⟩, ⟨.inr rfl, .inr rfl, .inr rfl, trivial⟩⟩
        · first | omega | (dsimp only; omega) | (simp; omega)
        · exact ⟨by omega, by rw [List.take_add_one, List.take_add_one, htk, hx, hy, hxy]⟩
    · have hk' : xs.length ≤ k := by simpa [ints_len] using hc14
      have heq : xs = ys := by rw [List.take_of_length_le hk', List.take_of_length_le (by omega)] at htk; exact htk
      refine E_exit ?_
      refine E_seq ?_
      refine E_region' (L := [0]) rfl ?_
      refine EOps_go rfl rfl (EOp_light rfl (by decide) (Pure.light (L_assign rfl)) ?_)
      refine EOps_nil ?_
      refine E_ret ?_
      refine ⟨_, [], rfl, rfl, ?_, rfl⟩
      simp [AV.ren, ren_sc, ren_ro, AC.ren, AC.ren.rens, ix, rv1, E.get, E.ev, E.cv, E.fill', E.fill, E.slotsOf, heq]

end Go.Proofs.Ytpcnpmeimemeaaa.E
