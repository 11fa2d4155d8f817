/- Walks through functions, by program out of the session's annotations. -/
import Derived.Test.YtkaikajjhhnifaaA16
import Derived.Test.YtkaikajjhhnifaaA21
namespace Go.Proofs.Ytkaikajjhhnifaa.E
open Go Go.RowKit Go.Proofs
set_option linter.unusedVariables false
set_option linter.unusedSimpArgs false

theorem L_slice_roI {P : Program} {s : Slots} {R : List Res} {o : Oper} {t e k : Nat} {b : Bool} {x : Operand} {lo hi : Option Operand} {rows : List (List T)} {l h : Int} (ho : o.op = .slice t x lo hi none) (ht : isSlice P t = some e) (hty : tyIs P e = some (b, k)) (hx : E.ev s x = .c (.ro rows)) (hl : lov s lo = some l) (hh : hiv rows.length s hi = some h)
    (h0 : 0 ≤ l) (h1 : l ≤ h) (h2 : h ≤ rows.length) (hk : ∀ r ∈ rows, r.length = k) : Pure P o s R (.c (.ro ((rows.drop l.toNat).take (h.toNat - l.toNat)))) :=
  L_slice_ro ho ht hty hx (by rw [hl, Int.toNat_of_nonneg h0]) (by rw [hh, Int.toNat_of_nonneg (by omega)]) (by omega) (by omega) hk
def cutV (xs : List Int) (a b : Int) : List Int := (xs.drop a.toNat).take (b.toNat - a.toNat)
def aggsN (c : Crk) : Nat → List (Int × Int × Int × Int)
  | 0 => []
  | k + 1 => if zOf c.piv c.vals.length k > lastK c k then aggsN c k ++ [aggOf (cutV c.vals (lastK c k) (zOf c.piv c.vals.length k))] else aggsN c k
def aggsL (c : Crk) : List (Int × Int × Int × Int) := if isCrk c = true then aggsN c (c.piv.length + 1) else []
def aggsP (c : Crk) (l : List (Int × Int)) : List (Int × Int × Int × Int) := l.map fun p => aggOf (cutV c.vals p.1 p.2)
theorem aggs_pieces (c : Crk) : ∀ k, aggsN c k = aggsP c (piecesN c k)
  | 0 => rfl
  | k + 1 => by
    rw [aggsN, piecesN]
    split
    · rw [aggs_pieces c k, aggsP, aggsP, List.map_append]; rfl
    · exact aggs_pieces c k
theorem aggsN_len (c : Crk) (k : Nat) : (aggsN c k).length ≤ k := by
  rw [aggs_pieces, aggsP, List.length_map]; exact piecesN_len c k
theorem aggsL_le {c : Crk} : (aggsL c).length ≤ 1048576 := by
  rw [aggsL]
  split
  · rename_i h
    have := (crk_lens h).2.2
    have := aggsN_len c (c.piv.length + 1)
    omega
  · simp

set_option maxRecDepth 20000 in
set_option maxHeartbeats 2000000 in
theorem c_spec_PieceAggregates (c : Crk) (h : c.piv.length ≤ 1048576) : EFn Try.prog 16 [.agg (crkC c)] [] (fun r S => r = .c (.sl 0 0 (aggsL c).length (aggsL c).length) ∧ S = [.row 106 4 (quads (aggsL c))]) := by
  refine E_fn Try.func16 rfl (Nat.le_of_ble_eq_true rfl) ?_
  refine E_G (n := 0) rfl ?_
  refine G_seq ?_
  refine G_region' (L := [0, 1]) rfl ?_
  refine x_box rfl rfl rfl rfl rfl ?_
  refine x_pure rfl rfl rfl (L_assign rfl) ?_
  refine EOps_nil ?_
  refine G_seq ?_
  refine G_region' (L := [0, 1]) rfl ?_
  refine EOps_go rfl rfl (Heavy.op (H_bslice rfl rfl (by decide) sl_27 ty_106 za_106 ⟨rfl, by decide⟩ (by decide) rfl rfl rfl rfl ?_))
  refine x_pure rfl rfl rfl (L_assign rfl) ?_
  refine EOps_nil ?_
  refine G_seq ?_
  refine G_region' (L := [0]) rfl ?_
  refine x_pure rfl rfl rfl (L_assign rfl) ?_
  refine EOps_nil ?_
  refine G_seq ?_
  refine g_tidy [0, 1, 2, 3, 4] ?_
  refine G_region' (L := [0, 1, 2]) rfl ?_
  refine x_light rfl rfl rfl (L_load rfl (by first | exact d_bp ty_31 | exact ld_rp ty_31 rfl | exact d_ep ty_31)) ?_
  refine x_call rfl rfl rfl rfl rfl ca_79 (c_spec_l4Ends c h) ?_
  rintro r S ⟨rfl, rfl⟩
  refine x_pure rfl rfl rfl (L_assign rfl) ?_
  refine EOps_nil ?_
  refine G_seq ?_
  refine G_seq ?_
  refine G_region' (L := [0]) rfl ?_
  refine x_pure rfl rfl rfl (L_assign rfl) ?_
  refine EOps_nil ?_
  refine G_block ?_
  refine g_forD (α := Nat) [0, 1, 2, 5] (fun k => [(6, .c (.sc (.int .i64 (k)))), (4, .c (.sc (.int .i64 ((lastK c k))))), (3, .c (.sl 1 0 (aggsN c k).length (aggsN c k).length))]) (fun k => [.box (crkC c), .row 106 4 (quads (aggsN c k)), .row 3 1 (ints (endsL c))]) (fun k => k ≤ c.piv.length + 1 ∧ (0 < k → isCrk c = true)) (fun k => c.piv.length + 1 - k) (0) ?_ (rfl) ⟨.inr rfl, .inr rfl, .inr rfl, trivial⟩ ?_
  · exact ⟨Nat.zero_le _, fun h => absurd h (by omega)⟩
  rintro k ⟨hk, hcr⟩
  have hel : (ints (endsL c)).length = c.piv.length + 1 := by rw [ints_len, endsL_len]
  have hal : (quads (aggsN c k)).length = (aggsN c k).length := quads_len _
  have han := aggsN_len c k
  refine G_seq ?_
  refine G_seq ?_
  refine g_tidy [0, 1, 2, 3, 4, 5, 6, 17, 25] ?_
  refine G_region' (L := [0, 1, 2, 3, 4, 5, 6, 7]) rfl ?_
  refine x_pure rfl rfl rfl (L_move rfl) ?_
  refine x_pure rfl rfl rfl (L_move rfl) ?_
  refine x_pure rfl rfl rfl (l_len rfl sl_22) ?_
  refine x_pure rfl rfl rfl (L_bin rfl rfl rfl rfl) ?_
  refine x_pure rfl rfl rfl (L_move rfl) ?_
  refine EOps_split 14 (b := _) rfl (fun hg14 => ?_) (fun hg14 => ?_)
  · have hk1 : k ≤ c.piv.length := by simp at hg14; omega
    refine x_light rfl rfl rfl (L_load rfl (by first | exact d_bp ty_31 | exact ld_rp ty_31 rfl | exact d_ep ty_31)) ?_
    refine x_call rfl rfl rfl rfl rfl ca_80 (c_spec_IsCracker c) ?_
    rintro r S ⟨rfl, rfl⟩
    refine x_pure rfl rfl rfl (L_pick rfl rfl) ?_
    refine EOps_nil ?_
    refine G_cond rfl (fun hc17 => ?_) (fun hc17 => ?_)
    · have hc : isCrk c = true := hc17
      have hl := crk_lens hc
      have hb := last_bounds hc hk1
      have hx := endsL_at (c := c) hk1
      refine G_skip ?_
      refine G_seq ?_
      refine G_block ?_
      refine G_seq ?_
      refine G_seq ?_
      refine G_region' (L := [0, 1, 2, 3, 4, 5]) rfl ?_
      refine x_pure rfl rfl rfl (L_move rfl) ?_
      refine x_pure rfl rfl rfl (L_move rfl) ?_
      refine x_pure rfl rfl rfl (L_index rfl rfl (by first | exact i_ro sl_22 ty_3 | exact i_sl sl_22 ty_3)) ?_
      refine x_light rfl rfl rfl (L_load rfl (by first | exact d_bp ty_3 | exact ld_rp ty_3 rfl | exact d_ep ty_3)) ?_
      refine x_pure rfl rfl rfl (L_move rfl) ?_
      refine x_pure rfl rfl rfl (L_bin rfl rfl rfl rfl) ?_
      refine EOps_nil ?_
      refine G_cond rfl (fun hc25 => ?_) (fun hc25 => ?_)
      · have hgt : zOf c.piv c.vals.length k > lastK c k := by simpa using hc25
        have hN : aggsN c (k + 1) = aggsN c k ++ [aggOf (cutV c.vals (lastK c k) (zOf c.piv c.vals.length k))] := by rw [aggsN, if_pos hgt]
        have hL : (aggsN c (k + 1)).length = (aggsN c k).length + 1 := by rw [hN, List.length_append]; rfl
        have hP : quads (aggsN c (k + 1)) = quads (aggsN c k) ++ quads [aggOf (cutV c.vals (lastK c k) (zOf c.piv c.vals.length k))] := by rw [hN]; simp [quads]
        refine g_tidy [0, 1, 2, 3, 4, 5, 6, 17, 25] ?_
        refine G_drawT mixed ?_
        refine t_old 0 rfl rfl rfl (L_move rfl) ?_
        refine t_old 1 rfl rfl rfl (l_field rfl fo_31_0) ?_
        refine t_light 2 rfl rfl rfl (L_load rfl (by first | exact d_bp ty_22 | exact ld_rp ty_22 rfl | exact d_ep ty_22)) ?_
        refine t_old 3 rfl rfl rfl (L_move rfl) ?_
        refine t_old 4 rfl rfl rfl (L_move rfl) ?_
        refine t_old 5 rfl rfl rfl (L_move rfl) ?_
        refine t_old 6 rfl rfl rfl (L_index rfl rfl (by first | exact i_ro sl_22 ty_3 | exact i_sl sl_22 ty_3)) ?_
        refine t_light 7 rfl rfl rfl (L_load rfl (by first | exact d_bp ty_3 | exact ld_rp ty_3 rfl | exact d_ep ty_3)) ?_
        refine t_old 8 rfl rfl rfl (Pure.as (L_slice_roI (l := (lastK c k)) (h := (zOf c.piv c.vals.length k)) rfl sl_22 ty_3 rfl rfl rfl (by first | omega | (simp [ints_len, pairs_len, quads_len, quints_len, bools_len]; omega) | (simp [ints_len, pairs_len, quads_len, quints_len, bools_len] at *; omega)) (by first | omega | (simp [ints_len, pairs_len, quads_len, quints_len, bools_len]; omega) | (simp [ints_len, pairs_len, quads_len, quints_len, bools_len] at *; omega)) (by first | omega | (simp [ints_len, pairs_len, quads_len, quints_len, bools_len]; omega) | (simp [ints_len, pairs_len, quads_len, quints_len, bools_len] at *; omega)) (by first | exact fun r hr => (ints_row _ r hr).1 | exact fun r hr => (pairs_row _ r hr).1 | exact fun r hr => (quads_row _ r hr).1 | exact fun r hr => (quints_row _ r hr).1 | exact fun r hr => (bools_row _ r hr).1)) (y' := .c (.ro (ints (cutV c.vals (lastK c k) (zOf c.piv c.vals.length k))))) (by first | (simp [ints_cut, pairs_cut, bools_cut, ints_take, pairs_take, bools_take]; done) | (simp [ints_cut, pairs_cut, bools_cut, ints_take, pairs_take, bools_take]; rfl))) ?_
        refine t_call 9 rfl rfl rfl rfl rfl ca_81 (c_spec_AggregateOf (cutV c.vals (lastK c k) (zOf c.piv c.vals.length k))) ?_
        rintro r S ⟨rfl, rfl⟩
        refine t_turn 10 rfl rfl (Heavy.op (H_bslice_ro rfl rfl (by decide) sl_27 ty_106 za_106 ⟨rfl, by decide⟩ (by decide) rfl rfl rfl rfl ?_))
        refine t_turn 11 rfl rfl (EOp_append (news := (quads [aggOf (cutV c.vals (lastK c k) (zOf c.piv c.vals.length k))])) rfl rfl (by decide) sl_27 ty_106 by_106 za_106 ⟨rfl, by decide⟩ rfl (by first | rfl | assumption) (by first | assumption | exact ints_len _ | exact pairs_len _ | exact quads_len _ | exact quints_len _ | exact bools_len _ | (simp [ints_len, bools_len, pairs_len, quads_len, quints_len, part_len, *]; done) | (simp [ints_len, bools_len, pairs_len, quads_len, quints_len]; omega) | rfl) (by first | (refine lend_whole rfl ?_; first | assumption | exact ints_len _ | exact pairs_len _ | exact quads_len _ | exact quints_len _ | exact bools_len _ | (simp [ints_len, bools_len, pairs_len, quads_len, quints_len, part_len, *]; done) | (simp [ints_len, bools_len, pairs_len, quads_len, quints_len]; omega) | rfl) | rfl | simp [E.lend, lendC]) (by first | exact ints_row _ | exact pairs_row _ | exact quads_row _ | exact quints_row _ | exact bools_row _ | (intro r hr; simp [chunk] at hr; subst hr; exact ⟨rfl, rfl⟩)) (by simp [ints_len, bools_len, pairs_len, quads_len, quints_len, chunk]; omega) ?_)
        refine t_old 12 rfl rfl rfl (L_assign rfl) ?_
        refine T_done (by kernel_rfl) ?_
        refine G_region' (L := [0, 1, 2, 3, 4]) rfl ?_
        refine x_pure rfl rfl rfl (L_move rfl) ?_
        refine x_pure rfl rfl rfl (L_move rfl) ?_
        refine x_pure rfl rfl rfl (L_index rfl rfl (by first | exact i_ro sl_22 ty_3 | exact i_sl sl_22 ty_3)) ?_
        refine x_light rfl rfl rfl (L_load rfl (by first | exact d_bp ty_3 | exact ld_rp ty_3 rfl | exact d_ep ty_3)) ?_
        refine x_pure rfl rfl rfl (L_assign rfl) ?_
        refine EOps_nil ?_
        refine G_region' (L := [0, 1, 2]) rfl ?_
        refine x_pure rfl rfl rfl (L_move rfl) ?_
        refine x_pure rfl rfl rfl (by first | exact l_add rfl rfl rfl | exact L_bin rfl rfl rfl rfl) ?_
        refine x_pure rfl rfl rfl (L_assign rfl) ?_
        refine EOps_nil ?_
        refine ⟨[0, 1, 2], rfl, k + 1, ?_, ?_, by simp only [hP]; rfl, ⟨.inr rfl, .inr (int_eq (lastK_step c k).symm), .inr ((by rw [hL] <;> rfl)), trivial⟩, ⟨.inr rfl, .inr rfl, .inr rfl, .inr rfl, trivial⟩⟩
        · first | omega | (dsimp only; omega) | (simp; omega)
        · exact ⟨by omega, fun _ => hc⟩
      · have hgt : ¬ zOf c.piv c.vals.length k > lastK c k := by simpa using hc25
        have hN : aggsN c (k + 1) = aggsN c k := by rw [aggsN, if_neg hgt]
        have hL : (aggsN c (k + 1)).length = (aggsN c k).length := by rw [hN]
        have hP : quads (aggsN c (k + 1)) = quads (aggsN c k) := by rw [hN]
        refine G_skip ?_
        refine G_region' (L := [0, 1, 2, 3, 4]) rfl ?_
        refine x_pure rfl rfl rfl (L_move rfl) ?_
        refine x_pure rfl rfl rfl (L_move rfl) ?_
        refine x_pure rfl rfl rfl (L_index rfl rfl (by first | exact i_ro sl_22 ty_3 | exact i_sl sl_22 ty_3)) ?_
        refine x_light rfl rfl rfl (L_load rfl (by first | exact d_bp ty_3 | exact ld_rp ty_3 rfl | exact d_ep ty_3)) ?_
        refine x_pure rfl rfl rfl (L_assign rfl) ?_
        refine EOps_nil ?_
        refine G_region' (L := [0, 1, 2]) rfl ?_
        refine x_pure rfl rfl rfl (L_move rfl) ?_
        refine x_pure rfl rfl rfl (by first | exact l_add rfl rfl rfl | exact L_bin rfl rfl rfl rfl) ?_
        refine x_pure rfl rfl rfl (L_assign rfl) ?_
        refine EOps_nil ?_
        refine ⟨[0, 1, 2], rfl, k + 1, ?_, ?_, by simp only [hP]; rfl, ⟨.inr rfl, .inr (int_eq (lastK_step c k).symm), .inr ((by rw [hL] <;> rfl)), trivial⟩, ⟨.inr rfl, .inr rfl, .inr rfl, .inr rfl, trivial⟩⟩
        · first | omega | (dsimp only; omega) | (simp; omega)
        · exact ⟨by omega, fun _ => hc⟩
    · have he : aggsL c = aggsN c k := by
        first
          | (have hcc : isCrk c = false := hc17
             have : k = 0 := by
               rcases Nat.eq_zero_or_pos k with h0 | h0
               · exact h0
               · rw [hcr h0] at hcc; cases hcc
             subst this
             rw [aggsL, hcc]; rfl)
          | (rw [aggsL, if_pos (hcr (by omega)), hkk])
      refine G_exit ?_
      refine G_seq ?_
      refine G_region' (L := [0, 1]) rfl ?_
      refine x_pure rfl rfl rfl (L_move rfl) ?_
      refine x_pure rfl rfl rfl (L_assign rfl) ?_
      refine EOps_nil ?_
      refine G_ret ?_
      rw [he]
      exact ⟨_, [1], rfl, rfl, rfl, rfl⟩
  · have hkk : k = c.piv.length + 1 := by simp at hg14; omega
    refine x_skip rfl rfl rfl ?_
    refine x_skip rfl rfl rfl ?_
    refine x_pure rfl rfl rfl (L_pick rfl rfl) ?_
    refine EOps_nil ?_
    refine G_cond rfl (fun hc17 => ?_) (fun hc17 => ?_)
    · exact Bool.noConfusion (hc17 : false = true)
    · have he : aggsL c = aggsN c k := by
        first
          | (have hcc : isCrk c = false := hc17
             have : k = 0 := by
               rcases Nat.eq_zero_or_pos k with h0 | h0
               · exact h0
               · rw [hcr h0] at hcc; cases hcc
             subst this
             rw [aggsL, hcc]; rfl)
          | (rw [aggsL, if_pos (hcr (by omega)), hkk])
      refine G_exit ?_
      refine G_seq ?_
      refine G_region' (L := [0, 1]) rfl ?_
      refine x_pure rfl rfl rfl (L_move rfl) ?_
      refine x_pure rfl rfl rfl (L_assign rfl) ?_
      refine EOps_nil ?_
      refine G_ret ?_
      rw [he]
      exact ⟨_, [1], rfl, rfl, rfl, rfl⟩

set_option maxRecDepth 20000 in
set_option maxHeartbeats 2000000 in
theorem c_impl_PieceAggregates0 (c : Crk) : EFn Try.prog 18 [.agg (crkC c)] [] (fun r S => (r = .c (.sl 0 0 (aggsL c).length (aggsL c).length) ∧ S = [.row 106 4 (quads (aggsL c))]) ∨ (r = .c (.sc (.slice none 0 0)) ∧ S = [] ∧ aggsL c = [])) := by
  refine E_fn Try.func18 rfl (Nat.le_of_ble_eq_true rfl) ?_
  refine E_G (n := 0) rfl ?_
  refine G_seq ?_
  refine G_region' (L := [0, 1]) rfl ?_
  refine x_box rfl rfl rfl rfl rfl ?_
  refine x_pure rfl rfl rfl (L_assign rfl) ?_
  refine EOps_nil ?_
  refine G_seq ?_
  refine G_seq ?_
  refine g_tidy [0, 1, 2] ?_
  refine G_region' (L := [0, 1, 2]) rfl ?_
  refine x_light rfl rfl rfl (L_load rfl (by first | exact d_bp ty_31 | exact ld_rp ty_31 rfl | exact d_ep ty_31)) ?_
  refine x_call rfl rfl rfl rfl rfl ca_51 (c_impl_IsCracker c) ?_
  rintro r S ⟨rfl, rfl⟩
  refine x_pure rfl rfl rfl (L_not rfl rfl) ?_
  refine EOps_nil ?_
  refine G_cond rfl (fun hc8 => ?_) (fun hc8 => ?_)
  · have he : aggsL c = [] := by
      have hcc : isCrk c = false := by simpa using hc8
      rw [aggsL, hcc]; rfl
    refine G_seq ?_
    refine G_region' (L := [0]) rfl ?_
    refine x_pure rfl rfl rfl (L_assign rfl) ?_
    refine EOps_nil ?_
    refine G_ret ?_
    exact ⟨_, [], rfl, rfl, .inr ⟨rfl, rfl, he⟩⟩
  · have hc : isCrk c = true := by simpa using hc8
    have hl := crk_lens hc
    refine G_skip ?_
    refine G_seq ?_
    refine G_region' (L := [0, 1]) rfl ?_
    refine EOps_go rfl rfl (Heavy.op (H_bslice rfl rfl (by decide) sl_27 ty_106 za_106 ⟨rfl, by decide⟩ (by decide) rfl rfl rfl rfl ?_))
    refine x_pure rfl rfl rfl (L_assign rfl) ?_
    refine EOps_nil ?_
    refine G_seq ?_
    refine G_seq ?_
    refine g_tidy [0, 1, 2, 3, 8] ?_
    refine G_region' (L := [0, 1, 2, 3]) rfl ?_
    refine x_light rfl rfl rfl (L_load rfl (by first | exact d_bp ty_31 | exact ld_rp ty_31 rfl | exact d_ep ty_31)) ?_
    refine x_call rfl rfl rfl rfl rfl ca_83 (c_impl_pieces c hc) ?_
    rintro r S ⟨rfl, rfl⟩
    refine x_pure rfl rfl rfl (l_len rfl sl_109) ?_
    refine x_pure rfl rfl rfl (L_move rfl) ?_
    refine EOps_nil ?_
    refine G_block ?_
    refine g_forD (α := Nat) [0, 1, 2, 8, 11, 12] (fun k => [(13, .c (.sc (.int .i64 (k)))), (3, .c (.sl 1 0 k k))]) (fun k => [.box (crkC c), .row 106 4 (quads (aggsP c ((piecesL c).take k))), .row 111 2 (pairs (piecesL c))]) (fun k => k ≤ (piecesL c).length) (fun k => (piecesL c).length - k) (0) ?_ (rfl) ⟨.inr rfl, .inr rfl, trivial⟩ ?_
    · simp
    rintro k hk
    have hel : (pairs (piecesL c)).length = (piecesL c).length := pairs_len _
    have hal : (quads (aggsP c ((piecesL c).take k))).length = k := by rw [quads_len, aggsP, List.length_map, List.length_take]; omega
    have hsz := piecesN_len c (c.piv.length + 1)
    have hszL : (piecesL c).length ≤ c.piv.length + 1 := hsz
    refine G_seq ?_
    refine G_region' (L := [0]) rfl ?_
    refine x_pure rfl rfl rfl (L_bin rfl rfl rfl rfl) ?_
    refine EOps_nil ?_
    refine G_seq ?_
    refine G_cond rfl (fun hc14 => ?_) (fun hc14 => ?_)
    · have hk1 : k < (piecesL c).length := by simpa using hc14
      obtain ⟨p, hp⟩ := at_lt hk1
      have hpb := pieces_in hc (c.piv.length + 1) (Nat.le_refl _) p (List.mem_of_getElem? hp)
      have hP : quads (aggsP c ((piecesL c).take (k + 1))) = quads (aggsP c ((piecesL c).take k)) ++ quads [aggOf (cutV c.vals p.1 p.2)] := by rw [take_snoc hp]; simp [quads, aggsP]
      refine G_skip ?_
      refine G_seq ?_
      refine G_block ?_
      refine G_seq ?_
      refine G_region' (L := [0, 1, 2, 3]) rfl ?_
      refine x_pure rfl rfl rfl (L_index rfl rfl (by first | exact i_ro sl_109 ty_111 | exact i_sl sl_109 ty_111)) ?_
      refine x_light rfl rfl rfl (L_load rfl (by first | exact d_bp ty_111 | exact ld_rp ty_111 rfl | exact d_ep ty_111)) ?_
      refine x_alloc rfl rfl rfl rfl za_111 ?_
      refine EOps_go rfl rfl (EOp_store rfl rfl rfl (by first | exact s_bp ty_111 | exact s_ep ty_111) ?_)
      refine EOps_nil ?_
      refine g_tidy [0, 1, 2, 3, 5, 8, 11, 12, 13, 14] ?_
      refine G_region' (L := [0, 1, 2, 3, 4, 5, 6, 7, 8, 9, 10, 11]) rfl ?_
      refine x_pure rfl rfl rfl (L_move rfl) ?_
      refine x_pure rfl rfl rfl (l_field rfl fo_31_0) ?_
      refine x_light rfl rfl rfl (L_load rfl (by first | exact d_bp ty_22 | exact ld_rp ty_22 rfl | exact d_ep ty_22)) ?_
      refine x_pure rfl rfl rfl (L_index rfl rfl (iav_ar ar_111 ty_3 (by decide) (by decide) rfl rfl)) ?_
      refine x_light rfl rfl rfl (L_load rfl (by first | exact d_bp ty_3 | exact ld_rp ty_3 rfl | exact d_ep ty_3)) ?_
      refine x_pure rfl rfl rfl (L_index rfl rfl (iav_ar ar_111 ty_3 (by decide) (by decide) rfl rfl)) ?_
      refine x_light rfl rfl rfl (L_load rfl (by first | exact d_bp ty_3 | exact ld_rp ty_3 rfl | exact d_ep ty_3)) ?_
      refine x_pure rfl rfl rfl (Pure.as (L_slice_roI (l := p.1) (h := p.2) rfl sl_22 ty_3 rfl rfl rfl (by first | omega | (simp [ints_len, pairs_len, quads_len, quints_len, bools_len]; omega) | (simp [ints_len, pairs_len, quads_len, quints_len, bools_len] at *; omega)) (by first | omega | (simp [ints_len, pairs_len, quads_len, quints_len, bools_len]; omega) | (simp [ints_len, pairs_len, quads_len, quints_len, bools_len] at *; omega)) (by first | omega | (simp [ints_len, pairs_len, quads_len, quints_len, bools_len]; omega) | (simp [ints_len, pairs_len, quads_len, quints_len, bools_len] at *; omega)) (by first | exact fun r hr => (ints_row _ r hr).1 | exact fun r hr => (pairs_row _ r hr).1 | exact fun r hr => (quads_row _ r hr).1 | exact fun r hr => (quints_row _ r hr).1 | exact fun r hr => (bools_row _ r hr).1)) (y' := .c (.ro (ints (cutV c.vals p.1 p.2)))) (by first | (simp [ints_cut, pairs_cut, bools_cut, ints_take, pairs_take, bools_take]; done) | (simp [ints_cut, pairs_cut, bools_cut, ints_take, pairs_take, bools_take]; rfl))) ?_
      refine x_call rfl rfl rfl rfl rfl ca_84 (c_impl_AggregateOf (cutV c.vals p.1 p.2)) ?_
      rintro r S ⟨rfl, rfl⟩
      refine EOps_go rfl rfl (Heavy.op (H_bslice_ro rfl rfl (by decide) sl_27 ty_106 za_106 ⟨rfl, by decide⟩ (by decide) rfl rfl rfl rfl ?_))
      refine EOps_go rfl rfl (EOp_append (news := (quads [aggOf (cutV c.vals p.1 p.2)])) rfl rfl (by decide) sl_27 ty_106 by_106 za_106 ⟨rfl, by decide⟩ rfl (by first | rfl | assumption) (by first | assumption | exact ints_len _ | exact pairs_len _ | exact quads_len _ | exact quints_len _ | exact bools_len _ | (simp [ints_len, bools_len, pairs_len, quads_len, quints_len, part_len, *]; done) | (simp [ints_len, bools_len, pairs_len, quads_len, quints_len]; omega) | rfl) (by first | (refine lend_whole rfl ?_; first | assumption | exact ints_len _ | exact pairs_len _ | exact quads_len _ | exact quints_len _ | exact bools_len _ | (simp [ints_len, bools_len, pairs_len, quads_len, quints_len, part_len, *]; done) | (simp [ints_len, bools_len, pairs_len, quads_len, quints_len]; omega) | rfl) | rfl | simp [E.lend, lendC]) (by first | exact ints_row _ | exact pairs_row _ | exact quads_row _ | exact quints_row _ | exact bools_row _ | (intro r hr; simp [chunk] at hr; subst hr; exact ⟨rfl, rfl⟩)) (by simp [ints_len, bools_len, pairs_len, quads_len, quints_len, chunk]; omega) ?_)
      refine x_pure rfl rfl rfl (L_assign rfl) ?_
      refine EOps_nil ?_
      refine G_region' (L := [0, 1]) rfl ?_
      refine x_pure rfl rfl rfl (by first | exact l_add rfl rfl rfl | exact L_bin rfl rfl rfl rfl) ?_
      refine x_pure rfl rfl rfl (L_move rfl) ?_
      refine EOps_nil ?_
      refine ⟨[0, 1, 2], rfl, k + 1, ?_, ?_, by simp only [hP]; rfl, ⟨.inr rfl, .inr rfl, trivial⟩, ⟨.inr rfl, .inr rfl, .inr rfl, .inr rfl, .inr rfl, .inr rfl, trivial⟩⟩
      · first | omega | (dsimp only; omega) | (simp; omega)
      · first | trivial | omega | (dsimp only; omega) | (simp; omega)
    · have hkk : (piecesL c).length ≤ k := by simpa using hc14
      have hke : k = (piecesL c).length := by omega
      have he : aggsL c = aggsP c ((piecesL c).take k) := by rw [List.take_of_length_le hkk, aggsL, if_pos hc]; exact aggs_pieces c _
      have hlen : (aggsL c).length = k := by rw [he, ← quads_len, hal]
      refine G_exit ?_
      refine G_seq ?_
      refine G_region' (L := [0, 1]) rfl ?_
      refine x_pure rfl rfl rfl (L_move rfl) ?_
      refine x_pure rfl rfl rfl (L_assign rfl) ?_
      refine EOps_nil ?_
      refine G_ret ?_
      rw [hlen, he]
      exact ⟨_, [1], rfl, rfl, .inl ⟨rfl, rfl⟩⟩

theorem c_impl_PieceAggregates (c : Crk) : EFn Try.prog 18 [.agg (crkC c)] [] (fun r S => r = .c (.sl 0 0 (aggsL c).length (aggsL c).length) ∧ S = [.row 106 4 (quads (aggsL c))]) :=
  (c_impl_PieceAggregates0 c).ghost (by
    rintro r S (⟨rfl, rfl⟩ | ⟨rfl, rfl, he⟩)
    · exact .inl ⟨rfl, rfl⟩
    · rw [he]
      exact .inr (.inr ⟨_, .sl 0 0 0 0, [some (106, 4)], rfl, rfl, rfl, rfl, rfl⟩))

end Go.Proofs.Ytkaikajjhhnifaa.E
