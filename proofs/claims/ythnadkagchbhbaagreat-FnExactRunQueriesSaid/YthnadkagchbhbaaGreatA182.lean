/- Walks through functions, by program out of the session's annotations. -/
import Derived.Test.YthnadkagchbhbaaGreatA111
import Derived.Test.YthnadkagchbhbaaGreatA180
namespace Go.Proofs.YthnadkagchbhbaaGreat.E
open Go Go.RowKit Go.Proofs
set_option linter.unusedVariables false
set_option linter.unusedSimpArgs false

theorem ty_59 : tyIs Tryz.prog 59 = some (false, 1) := by kernel_rfl

theorem e_tidy_A182_0 {P : Program} {N : Nat} {s : Slots} {R : List Res} {Q : Exit → Slots → List Res → Prop} {c : Code} (keep : List Nat) {base : Slots} {R' : List Res} (h : ECode P N c base R' Q) (hb : keepOf s keep = base := by simp only [E.keepOf, E.get, E.ev, E.cv, E.fill', E.fill, E.slotsOf, Res.sh, AC.sh, AC.sh.shs, AV.sh, E.splice, List.map_cons, List.map_nil, List.cons_append, List.nil_append, List.append_nil, List.length_cons, List.length_nil, List.take_zero, List.drop_zero, List.take_succ_cons, List.drop_succ_cons, List.drop_nil, List.take_nil, List.set_cons_zero, List.set_cons_succ, Nat.zero_add, Nat.add_zero, Nat.reduceAdd, Nat.reduceSub, reduceIte, Nat.reduceEqDiff, E.back, E.backR, E.ix, Res.un, AC.un, AC.un.uns, AV.un, E.un, Option.map_some, Option.map_none, Option.getD_some, List.getElem?_cons_zero, List.getElem?_cons_succ, List.getElem?_nil, crkR, crkO]; rfl) (hR : R = R' := by (try simp only [E.keepOf, E.get, E.ev, E.cv, E.fill', E.fill, E.slotsOf, Res.sh, AC.sh, AC.sh.shs, AV.sh, E.splice, List.map_cons, List.map_nil, List.cons_append, List.nil_append, List.append_nil, List.length_cons, List.length_nil, List.take_zero, List.drop_zero, List.take_succ_cons, List.drop_succ_cons, List.drop_nil, List.take_nil, List.set_cons_zero, List.set_cons_succ, Nat.zero_add, Nat.add_zero, Nat.reduceAdd, Nat.reduceSub, reduceIte, Nat.reduceEqDiff, E.back, E.backR, E.ix, Res.un, AC.un, AC.un.uns, AV.un, E.un, Option.map_some, Option.map_none, Option.getD_some, List.getElem?_cons_zero, List.getElem?_cons_succ, List.getElem?_nil, crkR, crkO]); rfl) : ECode P N c s R Q := E_tidy keep hb hR h
theorem g_forD_A182_1 {P : Program} {N n : Nat} {s : Slots} {R : List Res} {Q : Exit → Slots → List Res → Prop} {α : Type} {c : Code} (keep : List Nat) (mods : α → Slots) (Rf : α → List Res) (I : α → Prop) (m : α → Nat) (x0 : α) {base : Slots} (h0 : I x0) (hR : R = Rf x0) (h1 : chk s (mods x0))
  (round : ∀ x, I x → GCode P N n c (mods x ++ base) (Rf x) (EThen (fun s' R' => ∃ σ, okσ n R' σ = true ∧ ∃ y, m y < m x ∧ I y ∧ reR n σ R' = Rf y ∧ chk (renS n σ s') (mods y) ∧ chk (renS n σ s') base) Q)) (hb : keepOf s keep = base := by simp only [E.keepOf, E.get, E.ev, E.cv, E.fill', E.fill, E.slotsOf, Res.sh, AC.sh, AC.sh.shs, AV.sh, E.splice, List.map_cons, List.map_nil, List.cons_append, List.nil_append, List.append_nil, List.length_cons, List.length_nil, List.take_zero, List.drop_zero, List.take_succ_cons, List.drop_succ_cons, List.drop_nil, List.take_nil, List.set_cons_zero, List.set_cons_succ, Nat.zero_add, Nat.add_zero, Nat.reduceAdd, Nat.reduceSub, reduceIte, Nat.reduceEqDiff, E.back, E.backR, E.ix, Res.un, AC.un, AC.un.uns, AV.un, E.un, Option.map_some, Option.map_none, Option.getD_some, List.getElem?_cons_zero, List.getElem?_cons_succ, List.getElem?_nil, crkR, crkO]; rfl) : GCode P N n (.loop c) s R Q := G_forD keep mods Rf I m x0 hb h0 hR h1 round
theorem g_tidy_A182_2 {P : Program} {N n : Nat} {s : Slots} {R : List Res} {Q : Exit → Slots → List Res → Prop} {c : Code} (keep : List Nat) {base : Slots} {R' : List Res} (h : GCode P N n c base R' Q) (hb : keepOf s keep = base := by simp only [E.keepOf, E.get, E.ev, E.cv, E.fill', E.fill, E.slotsOf, Res.sh, AC.sh, AC.sh.shs, AV.sh, E.splice, List.map_cons, List.map_nil, List.cons_append, List.nil_append, List.append_nil, List.length_cons, List.length_nil, List.take_zero, List.drop_zero, List.take_succ_cons, List.drop_succ_cons, List.drop_nil, List.take_nil, List.set_cons_zero, List.set_cons_succ, Nat.zero_add, Nat.add_zero, Nat.reduceAdd, Nat.reduceSub, reduceIte, Nat.reduceEqDiff, E.back, E.backR, E.ix, Res.un, AC.un, AC.un.uns, AV.un, E.un, Option.map_some, Option.map_none, Option.getD_some, List.getElem?_cons_zero, List.getElem?_cons_succ, List.getElem?_nil, crkR, crkO]; rfl) (hR : R = R' := by (try simp only [E.keepOf, E.get, E.ev, E.cv, E.fill', E.fill, E.slotsOf, Res.sh, AC.sh, AC.sh.shs, AV.sh, E.splice, List.map_cons, List.map_nil, List.cons_append, List.nil_append, List.append_nil, List.length_cons, List.length_nil, List.take_zero, List.drop_zero, List.take_succ_cons, List.drop_succ_cons, List.drop_nil, List.take_nil, List.set_cons_zero, List.set_cons_succ, Nat.zero_add, Nat.add_zero, Nat.reduceAdd, Nat.reduceSub, reduceIte, Nat.reduceEqDiff, E.back, E.backR, E.ix, Res.un, AC.un, AC.un.uns, AV.un, E.un, Option.map_some, Option.map_none, Option.getD_some, List.getElem?_cons_zero, List.getElem?_cons_succ, List.getElem?_nil, crkR, crkO]); rfl) : GCode P N n c s R Q := G_tidy keep hb hR h

set_option maxRecDepth 20000 in
set_option maxHeartbeats 2000000 in
theorem c_impl_RunQueries_1 (q a b c d : Int) : EFn Tryz.prog 29 [.c (.sc (.int .i64 q)), .c (.sc (.int .i64 a)), .c (.sc (.int .i64 b)), .c (.sc (.int .i64 c)), .c (.sc (.int .i64 d))] [] (fun r S => r = .tup [] ∧ S = []) := by
 refine E_fn Tryz.func29 rfl (Nat.le_of_ble_eq_true rfl) ?_
 refine E_skip ?_
 exact ⟨_, [], rfl, rfl, rfl, rfl⟩

set_option maxRecDepth 20000 in
set_option maxHeartbeats 2000000 in
theorem c_impl_queries_1A (q a b c d : Int) : EFn Tryz.prog 46 [.c (.sc (.int .i64 a)), .c (.sc (.int .i64 b)), .c (.sc (.int .i64 c)), .c (.sc (.int .i64 d)), .c (.bp 0 0), .c (.bp 1 0)] [.box [.fn 29 []], .box [.sc (.int .i64 q)]] (fun r S => r = .tup [] ∧ S = [.box [.fn 29 []], .box [.sc (.int .i64 q)]]) := by
 refine E_fn Tryz.func46 rfl (Nat.le_of_ble_eq_true rfl) ?_
 refine E_region' (L := [0, 1, 2, 3, 4, 5, 6]) rfl ?_
 refine x_light rfl rfl rfl (L_load rfl (by first | exact d_bp ty_59 | exact ld_rp ty_59 rfl | exact d_ep ty_59)) ?_
 refine x_light rfl rfl rfl (L_load rfl (by first | exact d_bp ty_3 | exact ld_rp ty_3 rfl | exact d_ep ty_3)) ?_
 refine xmv ?_
 refine xmv ?_
 refine xmv ?_
 refine xmv ?_
 refine x_call rfl rfl rfl rfl rfl ca_29 (c_impl_RunQueries_1 q a b c d) ?_
 rintro r S ⟨rfl, rfl⟩
 refine EOps_nil ?_
 exact ⟨_, [], rfl, rfl, rfl, rfl⟩

set_option maxRecDepth 20000 in
set_option maxHeartbeats 2000000 in
theorem c_impl_cracking_1A (q : Int) (c : Crk) (v n : Int) (hc : isCrk c = true) (hv : bnd v = true) (hn : 0 ≤ n ∧ n ≤ 1000000000) : EFn Tryz.prog 68 [.c (.sc (.int .i64 v)), .c (.bp 0 0), .c (.bp 1 0), .c (.bp 2 0)] [.box (crkO 5 c), .box [.sc (.int .i64 n)], .box [.fn 46 [.bp 3 0, .bp 4 0]], .box [.fn 29 []], .box [.sc (.int .i64 q)], .row 3 1 (ints c.vals), .row 3 1 (ints c.rows), .row 76 2 (pairs c.piv)] (fun r S => r = .tup [] ∧ S = [.box (crkO 8 (crackC c v).1), .box [.sc (.int .i64 (n + totW (chgs 0 c v)))], .box [.fn 46 [.bp 3 0, .bp 4 0]], .box [.fn 29 []], .box [.sc (.int .i64 q)], .gone, .gone, .gone, .row 3 1 (ints (crackC c v).1.vals), .row 3 1 (ints (crackC c v).1.rows), .row 76 2 (pairs (crackC c v).1.piv)]) := by
 refine E_fn Tryz.func68 rfl (Nat.le_of_ble_eq_true rfl) ?_
 have hlc := crk_lens hc
 have hco := (crackC_ok hc hv).2
 refine E_moveN' 8 0 0 rfl rfl rfl rfl (ints_len _) (Nat.le_refl _) (ints_all _ rfl) (ints_allSc _) ?_
 refine E_moveN' 9 0 1 rfl rfl rfl rfl (ints_len _) (Nat.le_refl _) (ints_all _ rfl) (ints_allSc _) ?_
 refine E_moveN' 10 0 2 rfl rfl rfl rfl (pairs_len _) (Nat.le_refl _) (pairs_all _ rfl) (pairs_isSc _) ?_
 refine E_seq ?_
 refine E_seq ?_
 refine e_tidy_A182_0 [0, 1, 2, 3] ?_
 refine E_region' (L := [0, 1, 2]) rfl ?_
 refine x_light rfl rfl rfl (L_load rfl (by first | exact d_bp ty_29 | exact ld_rp ty_29 rfl | exact d_ep ty_29)) ?_
 refine xmv ?_
 refine x_call rfl rfl rfl rfl rfl ca_69 (c_impl_isPivot c v (by omega)) ?_
 rintro r S ⟨rfl, rfl⟩
 refine EOps_nil ?_
 refine E_cond rfl (fun hc11 => ?_) (fun hc11 => ?_)
 ·have hp : isPv c.piv v = true := hc11
  have hcr : crackC c v = (c, []) := by rw [crackC, if_pos hp]
  have hch : totW (chgs 0 c v) = 0 := by rw [chgs, if_pos hp]; rfl
  refine E_ret ?_
  rw [hch, hcr, Int.add_zero]
  exact ⟨_, [8, 9, 10], rfl, rfl, rfl, rfl⟩
 ·have hp : isPv c.piv v = false := hc11
  have hch : totW (chgs 0 c v) = ((crackC c v).2.length : Int) := by rw [chgs, if_neg (by simp [hp])]; simp [totW]
  refine E_skip ?_
  refine E_seq ?_
  refine e_tidy_A182_0 [0, 1, 2, 3, 11] ?_
  refine E_region' (L := [0, 1, 2, 3, 4, 5, 6, 7]) rfl ?_
  refine x_light rfl rfl rfl (L_load rfl (by first | exact d_bp ty_29 | exact ld_rp ty_29 rfl | exact d_ep ty_29)) ?_
  refine xmv ?_
  refine x_call rfl rfl rfl rfl rfl ca_70 (c_impl_piece c v ⟨by omega, by omega⟩) ?_
  rintro r S ⟨rfl, rfl⟩
  refine xmv ?_
  refine x_pure rfl rfl rfl (L_extract rfl rfl) ?_
  refine x_pure rfl rfl rfl (L_extract rfl rfl) ?_
  refine xas ?_
  refine xas ?_
  refine EOps_nil ?_
  refine E_seq ?_
  refine e_tidy_A182_0 [0, 1, 2, 3, 5, 6, 11] ?_
  refine E_region' (L := [0, 1, 2, 3, 4, 5, 6, 7, 8]) rfl ?_
  refine x_light rfl rfl rfl (L_load rfl (by first | exact d_bp ty_29 | exact ld_rp ty_29 rfl | exact d_ep ty_29)) ?_
  refine xmv ?_
  refine x_call rfl rfl rfl rfl rfl ca_71 (c_impl_crack c v hc hv) ?_
  rintro r S ⟨rfl, rfl⟩
  rw [crkT]
  refine xmv ?_
  refine x_pure rfl rfl rfl (L_extract rfl rfl) ?_
  refine x_pure rfl rfl rfl (L_extract rfl rfl) ?_
  refine x_alloc rfl rfl rfl rfl za_29 ?_
  refine EOps_go rfl rfl (EOp_store rfl rfl rfl (by first | exact s_bp ty_29 | exact s_ep ty_29) ?_)
  refine xas ?_
  refine EOps_nil ?_
  refine E_seq ?_
  refine E_region' (L := [0, 1]) rfl ?_
  refine x_light rfl rfl rfl (L_load rfl (by first | exact d_bp ty_29 | exact ld_rp ty_29 rfl | exact d_ep ty_29)) ?_
  refine EOps_go rfl rfl (EOp_store rfl rfl rfl (by first | exact s_bp ty_29 | exact s_ep ty_29) ?_)
  refine EOps_nil ?_
  refine E_seq ?_
  refine E_region' (L := [0, 1, 2, 3, 4]) rfl ?_
  refine x_light rfl rfl rfl (L_load rfl (by first | exact d_bp ty_3 | exact ld_rp ty_3 rfl | exact d_ep ty_3)) ?_
  refine xmv ?_
  refine x_pure rfl rfl rfl (l_len rfl sl_99) ?_
  refine x_pure rfl rfl rfl (by first | exact l_add rfl rfl rfl | exact L_bin rfl rfl rfl rfl) ?_
  refine EOps_go rfl rfl (EOp_store rfl rfl rfl (by first | exact s_bp ty_3 | exact s_ep ty_3) ?_)
  refine EOps_nil ?_
  refine e_tidy_A182_0 [0, 1, 2, 3, 5, 6, 7, 8, 11] ?_
  refine E_region' (L := [0, 1, 2, 3, 4, 5, 6]) rfl ?_
  refine x_light rfl rfl rfl (L_load rfl (by first | exact d_bp ty_73 | exact ld_rp ty_73 rfl | exact d_ep ty_73)) ?_
  refine xmv ?_
  refine xmv ?_
  refine xmv ?_
  refine xmv ?_
  refine x_pure rfl rfl rfl (l_len rfl sl_99) ?_
  refine x_frameC [3, 4] rfl rfl rfl rfl rfl ca_46 rfl (c_impl_queries_1A q v (pcFrom c.piv v) (pcTo c.piv c.vals.length v) ((crackC c v).2.length : Int)) ?_
  rintro r S ⟨r0, S0, ⟨rfl, rfl⟩, rfl, rfl⟩
  refine EOps_nil ?_
  rw [hch]
  exact ⟨_, [11, 12, 13], rfl, rfl, rfl, rfl⟩

set_option maxRecDepth 20000 in
set_option maxHeartbeats 8000000 in
theorem c_impl_crackingA (q : Int) (c : Crk) (s : Sett) (v : Int) (hc : isCrk c = true) (hs : isSet s = true) (hv : bnd v = true) : EFn Tryz.prog 58 [.agg (crkO 0 c), .agg (setC s), .c (.sc (.int .i64 v)), .c (.fn 46 [.bp 3 0, .bp 4 0])] [.row 3 1 (ints c.vals), .row 3 1 (ints c.rows), .row 76 2 (pairs c.piv), .box [.fn 29 []], .box [.sc (.int .i64 q)]] (fun r S => r = .tup [(true, crkO 5 (withW 0 c s v []).1), (true, setC (withW 0 c s v []).2.1), (false, [.sc (.int .i64 (totW (withW 0 c s v []).2.2))])] ∧ S = [.gone, .gone, .gone, .box [.fn 29 []], .box [.sc (.int .i64 q)], .row 3 1 (ints (withW 0 c s v []).1.vals), .row 3 1 (ints (withW 0 c s v []).1.rows), .row 76 2 (pairs (withW 0 c s v []).1.piv)]) := by
  refine E_fn Tryz.func58 rfl (Nat.le_of_ble_eq_true rfl) ?_
  refine E_G (n := 5) rfl ?_
  refine G_seq ?_
  refine G_region' (L := [0, 1, 2, 3, 4, 5]) rfl ?_
  refine x_box rfl rfl rfl rfl rfl ?_
  refine x_box rfl rfl rfl rfl rfl ?_
  refine x_box rfl rfl rfl rfl rfl ?_
  refine x_alloc rfl rfl rfl rfl za_29 ?_
  refine x_alloc rfl rfl rfl rfl za_34 ?_
  refine xas ?_
  refine EOps_nil ?_
  refine G_seq ?_
  refine G_region' (L := [0, 1]) rfl ?_
  refine x_alloc rfl rfl rfl rfl za_3 ?_
  refine EOps_go rfl rfl (EOp_store rfl rfl rfl (by first | exact s_bp ty_3 | exact s_ep ty_3) ?_)
  refine EOps_nil ?_
  refine G_seq ?_
  refine G_region' (L := [0, 1]) rfl ?_
  refine x_pure rfl rfl rfl (L_func rfl rfl) ?_
  refine xas ?_
  refine EOps_nil ?_
  refine G_seq ?_
  refine G_block ?_
  refine G_moveN' 11 5 0 rfl rfl rfl rfl (ints_len _) (Nat.le_refl _) (ints_all _ rfl) (ints_allSc _) ?_
  refine G_moveN' 12 5 1 rfl rfl rfl rfl (ints_len _) (Nat.le_refl _) (ints_all _ rfl) (ints_allSc _) ?_
  refine G_moveN' 13 5 2 rfl rfl rfl rfl (pairs_len _) (Nat.le_refl _) (pairs_all _ rfl) (pairs_isSc _) ?_
  refine g_forD_A182_1 (α := Nat × Crk × Sett × List Qn) [0, 1, 2, 3, 4, 5, 7, 8, 9, 10, 11, 12] (fun (f, cur, st, l1) => []) (fun (f, cur, st, l1) => [.gone, .gone, .gone, .box [.fn 29 []], .box [.sc (.int .i64 q)], .box (crkO 11 cur), .box (setC st), .box [.fn 46 [.bp 3 0, .bp 4 0]], .box [.sc (.slice none 0 0), .sc (.slice none 0 0), .sc (.slice none 0 0)], .box [.sc (.int .i64 0), .sc (.int .i64 0), .sc (.int .i64 0)], .box [.sc (.int .i64 (totW l1))], .row 3 1 (ints cur.vals), .row 3 1 (ints cur.rows), .row 76 2 (pairs cur.piv)]) (fun (f, cur, st, l1) => isCrk cur = true ∧ isSet st = true ∧ goW 0 v f cur st l1 = goW 0 v 4000 c s [] ∧ 2001 < f + cur.piv.length ∧ f ≤ 4000 ∧ okL l1 (2 * (4000 - f))) (fun (f, cur, st, l1) => f) ((4000, c, s, [])) ?_ (rfl) trivial ?_
  · exact ⟨hc, hs, rfl, by first | omega | (dsimp only; omega), by first | omega | (dsimp only; omega), okL_nil _⟩
  rintro ⟨f, cur, st, l1⟩ ⟨hcur, hset, hgo, hfu, hf4, hok⟩
  dsimp only at *
  have hlc := crk_lens hcur
  obtain ⟨f', rfl⟩ : ∃ f', f = f' + 1 := ⟨f - 1, by omega⟩
  have hpb := pc_bounds hcur v
  obtain ⟨a, ha⟩ : ∃ a : Nat, pcFrom cur.piv v = a := ⟨_, (Int.toNat_of_nonneg hpb.1).symm⟩
  obtain ⟨b, hbb⟩ : ∃ b : Nat, pcTo cur.piv cur.vals.length v = b := ⟨_, (Int.toNat_of_nonneg (by omega)).symm⟩
  have hpc : pcT cur v = .tup [(false, [.sc (.int .i64 (a : Int))]), (false, [.sc (.int .i64 (b : Int))])] := by rw [pcT, ha, hbb]
  have hgs : goW 0 v (f' + 1) cur st l1 = if stopW cur st v = true then (cur, st, l1) else goW 0 v f' (stepW cur st v) (setN st) (l1 ++ chgs 0 cur (chW cur st v) ++ chgs 0 (crackC cur (chW cur st v)).1 (chW cur st v + 1)) := rfl
  have hsp := set_parts hset
  have hl1 := hok.1
  have ht1 := okL_tot hok
  refine G_seq ?_
  refine G_seq ?_
  refine g_tidy_A182_2 [0, 1, 2, 3, 4, 5, 7, 8, 9, 10, 11, 12, 13, 14, 15, 25, 37] ?_
  refine G_region' (L := [0, 1, 2, 3, 4, 5, 6, 7, 8]) rfl ?_
  refine x_pure rfl rfl rfl (l_field rfl fo_34_0) ?_
  refine x_light rfl rfl rfl (L_load rfl (by first | exact d_bp ty_3 | exact ld_rp ty_3 rfl | exact d_ep ty_3)) ?_
  refine x_pure rfl rfl rfl (L_bin rfl rfl rfl rfl) ?_
  refine xmv ?_
  refine EOps_split 20 (b := _) rfl (fun hg20 => ?_) (fun hg20 => ?_)
  · refine x_light rfl rfl rfl (L_load rfl (by first | exact d_bp ty_29 | exact ld_rp ty_29 rfl | exact d_ep ty_29)) ?_
    refine xmv ?_
    refine x_call rfl rfl rfl rfl rfl ca_69 (c_impl_isPivot cur v (by omega)) ?_
    rintro r S ⟨rfl, rfl⟩
    refine x_pure rfl rfl rfl (L_not rfl rfl) ?_
    refine x_pure rfl rfl rfl (L_pick rfl rfl) ?_
    refine EOps_nil ?_
    refine G_cond rfl (fun hc25 => ?_) (fun hc25 => ?_)
    · refine G_skip ?_
      refine G_block ?_
      refine G_seq ?_
      refine g_tidy_A182_2 [0, 1, 2, 3, 4, 5, 7, 8, 9, 10, 11, 12, 13, 14, 15, 25, 37] ?_
      refine G_region' (L := [0, 1, 2, 3, 4, 5, 6, 7]) rfl ?_
      refine x_light rfl rfl rfl (L_load rfl (by first | exact d_bp ty_29 | exact ld_rp ty_29 rfl | exact d_ep ty_29)) ?_
      refine xmv ?_
      refine x_call rfl rfl rfl rfl rfl ca_70 (c_impl_piece cur v ⟨by omega, by omega⟩) ?_
      rintro r S ⟨rfl, rfl⟩
      rw [hpc]
      refine xmv ?_
      refine x_pure rfl rfl rfl (L_extract rfl rfl) ?_
      refine x_pure rfl rfl rfl (L_extract rfl rfl) ?_
      refine xas ?_
      refine xas ?_
      refine EOps_nil ?_
      refine G_seq ?_
      refine G_seq ?_
      refine G_region' (L := [0, 1, 2, 3, 4, 5]) rfl ?_
      refine xmv ?_
      refine xmv ?_
      refine x_pure rfl rfl rfl (by first | exact l_sub rfl rfl rfl | exact L_bin rfl rfl rfl rfl) ?_
      refine x_pure rfl rfl rfl (l_field rfl fo_34_1) ?_
      refine x_light rfl rfl rfl (L_load rfl (by first | exact d_bp ty_3 | exact ld_rp ty_3 rfl | exact d_ep ty_3)) ?_
      refine x_pure rfl rfl rfl (L_bin rfl rfl rfl rfl) ?_
      refine EOps_nil ?_
      refine G_cond rfl (fun hc37 => ?_) (fun hc37 => ?_)
      · have hst : stopW cur st v = true := by
          have h1 : (b : Int) - a ≤ st.thr := by simpa using hc37
          rw [stopW, ha, hbb]
          simp [h1]
        rw [if_pos hst] at hgs
        have hres : goW 0 v 4000 c s [] = (cur, st, l1) := hgo.symm.trans hgs
        have hW : withW 0 c s v [] = ((crackC cur v).1, st, l1 ++ chgs 0 cur v) := by rw [withW, hres]
        refine G_exit ?_
        refine G_seq ?_
        refine g_tidy_A182_2 [0, 1, 2, 3, 4, 5, 7, 8, 9, 10, 11, 12, 13, 14, 15, 25, 37] ?_
        refine G_region' (L := [0, 1, 2]) rfl ?_
        refine xmv ?_
        refine xmv ?_
        refine x_frameC [5, 10, 7, 3, 4, 11, 12, 13] rfl rfl rfl rfl rfl ca_68 rfl (c_impl_cracking_1A q cur v (totW l1) hcur hv ⟨by omega, by omega⟩) ?_
        rintro r S ⟨r0, S0, ⟨rfl, rfl⟩, rfl, rfl⟩
        refine EOps_nil ?_
        refine G_seq ?_
        refine G_drawU mixed ?_
        refine u_any 0 [1, 2] ⟨?_, ?_, ?_, trivial⟩
        · refine u_op 0 rfl rfl (EOp_light rfl (by decide) (L_load rfl (by first | exact d_bp ty_29 | exact ld_rp ty_29 rfl | exact d_ep ty_29)) ?_)
          refine u_any 1 [2, 3] ⟨?_, ?_, ?_, trivial⟩
          · refine u_op 1 rfl rfl (EOp_light rfl (by decide) (L_load rfl (by first | exact d_bp ty_34 | exact ld_rp ty_34 rfl | exact d_ep ty_34)) ?_)
            refine u_any 2 [3] ⟨?_, ?_, trivial⟩
            · refine u_op 2 rfl rfl (EOp_light rfl (by decide) (L_load rfl (by first | exact d_bp ty_3 | exact ld_rp ty_3 rfl | exact d_ep ty_3)) ?_)
              refine u_any 3 [] ⟨?_, trivial⟩
              refine u_op 3 rfl rfl (EOp_store rfl rfl rfl (by first | exact s_bp ty_29 | exact s_ep ty_29) ?_)
              refine u_any 4 [] ⟨?_, trivial⟩
              refine u_op 4 rfl rfl (EOp_store rfl rfl rfl (by first | exact s_bp ty_34 | exact s_ep ty_34) ?_)
              refine u_pure 5 rfl rfl rfl (L_assign rfl) ?_
              refine u_done ?_
              refine G_ret ?_
              rw [hW, totW_app]
              exact ⟨_, [14, 15, 16], rfl, rfl, rfl, rfl⟩
            · refine u_op 3 rfl rfl (EOp_store rfl rfl rfl (by first | exact s_bp ty_29 | exact s_ep ty_29) ?_)
              refine u_any 2 [4] ⟨?_, ?_, trivial⟩
              · refine u_op 2 rfl rfl (EOp_light rfl (by decide) (L_load rfl (by first | exact d_bp ty_3 | exact ld_rp ty_3 rfl | exact d_ep ty_3)) ?_)
                refine u_any 4 [] ⟨?_, trivial⟩
                refine u_op 4 rfl rfl (EOp_store rfl rfl rfl (by first | exact s_bp ty_34 | exact s_ep ty_34) ?_)
                refine u_pure 5 rfl rfl rfl (L_assign rfl) ?_
                refine u_done ?_
                refine G_ret ?_
                rw [hW, totW_app]
                exact ⟨_, [14, 15, 16], rfl, rfl, rfl, rfl⟩
              · refine u_op 4 rfl rfl (EOp_store rfl rfl rfl (by first | exact s_bp ty_34 | exact s_ep ty_34) ?_)
                refine u_any 2 [] ⟨?_, trivial⟩
                refine u_op 2 rfl rfl (EOp_light rfl (by decide) (L_load rfl (by first | exact d_bp ty_3 | exact ld_rp ty_3 rfl | exact d_ep ty_3)) ?_)
                refine u_pure 5 rfl rfl rfl (L_assign rfl) ?_
                refine u_done ?_
                refine G_ret ?_
                rw [hW, totW_app]
                exact ⟨_, [14, 15, 16], rfl, rfl, rfl, rfl⟩
          · refine u_op 2 rfl rfl (EOp_light rfl (by decide) (L_load rfl (by first | exact d_bp ty_3 | exact ld_rp ty_3 rfl | exact d_ep ty_3)) ?_)
            refine u_any 1 [3] ⟨?_, ?_, trivial⟩
            · refine u_op 1 rfl rfl (EOp_light rfl (by decide) (L_load rfl (by first | exact d_bp ty_34 | exact ld_rp ty_34 rfl | exact d_ep ty_34)) ?_)
              refine u_any 3 [] ⟨?_, trivial⟩
              refine u_op 3 rfl rfl (EOp_store rfl rfl rfl (by first | exact s_bp ty_29 | exact s_ep ty_29) ?_)
              refine u_any 4 [] ⟨?_, trivial⟩
              refine u_op 4 rfl rfl (EOp_store rfl rfl rfl (by first | exact s_bp ty_34 | exact s_ep ty_34) ?_)
              refine u_pure 5 rfl rfl rfl (L_assign rfl) ?_
              refine u_done ?_
              refine G_ret ?_
              rw [hW, totW_app]
              exact ⟨_, [14, 15, 16], rfl, rfl, rfl, rfl⟩
            · refine u_op 3 rfl rfl (EOp_store rfl rfl rfl (by first | exact s_bp ty_29 | exact s_ep ty_29) ?_)
              refine u_any 1 [] ⟨?_, trivial⟩
              refine u_op 1 rfl rfl (EOp_light rfl (by decide) (L_load rfl (by first | exact d_bp ty_34 | exact ld_rp ty_34 rfl | exact d_ep ty_34)) ?_)
              refine u_any 4 [] ⟨?_, trivial⟩
              refine u_op 4 rfl rfl (EOp_store rfl rfl rfl (by first | exact s_bp ty_34 | exact s_ep ty_34) ?_)
              refine u_pure 5 rfl rfl rfl (L_assign rfl) ?_
              refine u_done ?_
              refine G_ret ?_
              rw [hW, totW_app]
              exact ⟨_, [14, 15, 16], rfl, rfl, rfl, rfl⟩
          · refine u_op 3 rfl rfl (EOp_store rfl rfl rfl (by first | exact s_bp ty_29 | exact s_ep ty_29) ?_)
            refine u_any 1 [2] ⟨?_, ?_, trivial⟩
            · refine u_op 1 rfl rfl (EOp_light rfl (by decide) (L_load rfl (by first | exact d_bp ty_34 | exact ld_rp ty_34 rfl | exact d_ep ty_34)) ?_)
              refine u_any 2 [4] ⟨?_, ?_, trivial⟩
              · refine u_op 2 rfl rfl (EOp_light rfl (by decide) (L_load rfl (by first | exact d_bp ty_3 | exact ld_rp ty_3 rfl | exact d_ep ty_3)) ?_)
                refine u_any 4 [] ⟨?_, trivial⟩
                refine u_op 4 rfl rfl (EOp_store rfl rfl rfl (by first | exact s_bp ty_34 | exact s_ep ty_34) ?_)
                refine u_pure 5 rfl rfl rfl (L_assign rfl) ?_
                refine u_done ?_
                refine G_ret ?_
                rw [hW, totW_app]
                exact ⟨_, [14, 15, 16], rfl, rfl, rfl, rfl⟩
              · refine u_op 4 rfl rfl (EOp_store rfl rfl rfl (by first | exact s_bp ty_34 | exact s_ep ty_34) ?_)
                refine u_any 2 [] ⟨?_, trivial⟩
                refine u_op 2 rfl rfl (EOp_light rfl (by decide) (L_load rfl (by first | exact d_bp ty_3 | exact ld_rp ty_3 rfl | exact d_ep ty_3)) ?_)
                refine u_pure 5 rfl rfl rfl (L_assign rfl) ?_
                refine u_done ?_
                refine G_ret ?_
                rw [hW, totW_app]
                exact ⟨_, [14, 15, 16], rfl, rfl, rfl, rfl⟩
            · refine u_op 2 rfl rfl (EOp_light rfl (by decide) (L_load rfl (by first | exact d_bp ty_3 | exact ld_rp ty_3 rfl | exact d_ep ty_3)) ?_)
              refine u_any 1 [] ⟨?_, trivial⟩
              refine u_op 1 rfl rfl (EOp_light rfl (by decide) (L_load rfl (by first | exact d_bp ty_34 | exact ld_rp ty_34 rfl | exact d_ep ty_34)) ?_)
              refine u_any 4 [] ⟨?_, trivial⟩
              refine u_op 4 rfl rfl (EOp_store rfl rfl rfl (by first | exact s_bp ty_34 | exact s_ep ty_34) ?_)
              refine u_pure 5 rfl rfl rfl (L_assign rfl) ?_
              refine u_done ?_
              refine G_ret ?_
              rw [hW, totW_app]
              exact ⟨_, [14, 15, 16], rfl, rfl, rfl, rfl⟩
        · refine u_op 1 rfl rfl (EOp_light rfl (by decide) (L_load rfl (by first | exact d_bp ty_34 | exact ld_rp ty_34 rfl | exact d_ep ty_34)) ?_)
          refine u_any 0 [2] ⟨?_, ?_, trivial⟩
          · refine u_op 0 rfl rfl (EOp_light rfl (by decide) (L_load rfl (by first | exact d_bp ty_29 | exact ld_rp ty_29 rfl | exact d_ep ty_29)) ?_)
            refine u_any 2 [3] ⟨?_, ?_, trivial⟩
            · refine u_op 2 rfl rfl (EOp_light rfl (by decide) (L_load rfl (by first | exact d_bp ty_3 | exact ld_rp ty_3 rfl | exact d_ep ty_3)) ?_)
              refine u_any 3 [] ⟨?_, trivial⟩
              refine u_op 3 rfl rfl (EOp_store rfl rfl rfl (by first | exact s_bp ty_29 | exact s_ep ty_29) ?_)
              refine u_any 4 [] ⟨?_, trivial⟩
              refine u_op 4 rfl rfl (EOp_store rfl rfl rfl (by first | exact s_bp ty_34 | exact s_ep ty_34) ?_)
              refine u_pure 5 rfl rfl rfl (L_assign rfl) ?_
              refine u_done ?_
              refine G_ret ?_
              rw [hW, totW_app]
              exact ⟨_, [14, 15, 16], rfl, rfl, rfl, rfl⟩
            · refine u_op 3 rfl rfl (EOp_store rfl rfl rfl (by first | exact s_bp ty_29 | exact s_ep ty_29) ?_)
              refine u_any 2 [4] ⟨?_, ?_, trivial⟩
              · refine u_op 2 rfl rfl (EOp_light rfl (by decide) (L_load rfl (by first | exact d_bp ty_3 | exact ld_rp ty_3 rfl | exact d_ep ty_3)) ?_)
                refine u_any 4 [] ⟨?_, trivial⟩
                refine u_op 4 rfl rfl (EOp_store rfl rfl rfl (by first | exact s_bp ty_34 | exact s_ep ty_34) ?_)
                refine u_pure 5 rfl rfl rfl (L_assign rfl) ?_
                refine u_done ?_
                refine G_ret ?_
                rw [hW, totW_app]
                exact ⟨_, [14, 15, 16], rfl, rfl, rfl, rfl⟩
              · refine u_op 4 rfl rfl (EOp_store rfl rfl rfl (by first | exact s_bp ty_34 | exact s_ep ty_34) ?_)
                refine u_any 2 [] ⟨?_, trivial⟩
                refine u_op 2 rfl rfl (EOp_light rfl (by decide) (L_load rfl (by first | exact d_bp ty_3 | exact ld_rp ty_3 rfl | exact d_ep ty_3)) ?_)
                refine u_pure 5 rfl rfl rfl (L_assign rfl) ?_
                refine u_done ?_
                refine G_ret ?_
                rw [hW, totW_app]
                exact ⟨_, [14, 15, 16], rfl, rfl, rfl, rfl⟩
          · refine u_op 2 rfl rfl (EOp_light rfl (by decide) (L_load rfl (by first | exact d_bp ty_3 | exact ld_rp ty_3 rfl | exact d_ep ty_3)) ?_)
            refine u_any 0 [] ⟨?_, trivial⟩
            refine u_op 0 rfl rfl (EOp_light rfl (by decide) (L_load rfl (by first | exact d_bp ty_29 | exact ld_rp ty_29 rfl | exact d_ep ty_29)) ?_)
            refine u_any 3 [] ⟨?_, trivial⟩
            refine u_op 3 rfl rfl (EOp_store rfl rfl rfl (by first | exact s_bp ty_29 | exact s_ep ty_29) ?_)
            refine u_any 4 [] ⟨?_, trivial⟩
            refine u_op 4 rfl rfl (EOp_store rfl rfl rfl (by first | exact s_bp ty_34 | exact s_ep ty_34) ?_)
            refine u_pure 5 rfl rfl rfl (L_assign rfl) ?_
            refine u_done ?_
            refine G_ret ?_
            rw [hW, totW_app]
            exact ⟨_, [14, 15, 16], rfl, rfl, rfl, rfl⟩
        · refine u_op 2 rfl rfl (EOp_light rfl (by decide) (L_load rfl (by first | exact d_bp ty_3 | exact ld_rp ty_3 rfl | exact d_ep ty_3)) ?_)
          refine u_any 0 [1] ⟨?_, ?_, trivial⟩
          · refine u_op 0 rfl rfl (EOp_light rfl (by decide) (L_load rfl (by first | exact d_bp ty_29 | exact ld_rp ty_29 rfl | exact d_ep ty_29)) ?_)
            refine u_any 1 [3] ⟨?_, ?_, trivial⟩
            · refine u_op 1 rfl rfl (EOp_light rfl (by decide) (L_load rfl (by first | exact d_bp ty_34 | exact ld_rp ty_34 rfl | exact d_ep ty_34)) ?_)
              refine u_any 3 [] ⟨?_, trivial⟩
              refine u_op 3 rfl rfl (EOp_store rfl rfl rfl (by first | exact s_bp ty_29 | exact s_ep ty_29) ?_)
              refine u_any 4 [] ⟨?_, trivial⟩
              refine u_op 4 rfl rfl (EOp_store rfl rfl rfl (by first | exact s_bp ty_34 | exact s_ep ty_34) ?_)
              refine u_pure 5 rfl rfl rfl (L_assign rfl) ?_
              refine u_done ?_
              refine G_ret ?_
              rw [hW, totW_app]
              exact ⟨_, [14, 15, 16], rfl, rfl, rfl, rfl⟩
            · refine u_op 3 rfl rfl (EOp_store rfl rfl rfl (by first | exact s_bp ty_29 | exact s_ep ty_29) ?_)
              refine u_any 1 [] ⟨?_, trivial⟩
              refine u_op 1 rfl rfl (EOp_light rfl (by decide) (L_load rfl (by first | exact d_bp ty_34 | exact ld_rp ty_34 rfl | exact d_ep ty_34)) ?_)
              refine u_any 4 [] ⟨?_, trivial⟩
              refine u_op 4 rfl rfl (EOp_store rfl rfl rfl (by first | exact s_bp ty_34 | exact s_ep ty_34) ?_)
              refine u_pure 5 rfl rfl rfl (L_assign rfl) ?_
              refine u_done ?_
              refine G_ret ?_
              rw [hW, totW_app]
              exact ⟨_, [14, 15, 16], rfl, rfl, rfl, rfl⟩
          · refine u_op 1 rfl rfl (EOp_light rfl (by decide) (L_load rfl (by first | exact d_bp ty_34 | exact ld_rp ty_34 rfl | exact d_ep ty_34)) ?_)
            refine u_any 0 [] ⟨?_, trivial⟩
            refine u_op 0 rfl rfl (EOp_light rfl (by decide) (L_load rfl (by first | exact d_bp ty_29 | exact ld_rp ty_29 rfl | exact d_ep ty_29)) ?_)
            refine u_any 3 [] ⟨?_, trivial⟩
            refine u_op 3 rfl rfl (EOp_store rfl rfl rfl (by first | exact s_bp ty_29 | exact s_ep ty_29) ?_)
            refine u_any 4 [] ⟨?_, trivial⟩
            refine u_op 4 rfl rfl (EOp_store rfl rfl rfl (by first | exact s_bp ty_34 | exact s_ep ty_34) ?_)
            refine u_pure 5 rfl rfl rfl (L_assign rfl) ?_
            refine u_done ?_
            refine G_ret ?_
            rw [hW, totW_app]
            exact ⟨_, [14, 15, 16], rfl, rfl, rfl, rfl⟩
      · have hst : stopW cur st v = false := by
          have h1 : isPv cur.piv v = false := by simpa using hc25
          have h2 : ¬ st.pol = 0 := by simpa using hg20
          have h3 : ¬ (b : Int) - a ≤ st.thr := by simpa using hc37
          rw [stopW, ha, hbb]
          simp [h1, h2, h3]
        obtain ⟨hab, bm, bm1, k1, k2, k3⟩ := stepW_ok hcur hset hst
        rw [if_neg (by simp [hst])] at hgs
        have hchw : chW cur st v = chP cur st a b := by rw [chW, ha, hbb]
        have hsw : stepW cur st v = (crackC (crackC cur (chP cur st a b)).1 (chP cur st a b + 1)).1 := by rw [stepW, hchw]
        rw [hsw, hchw] at hgs
        rw [hsw] at k2 k3
        rw [hchw] at bm bm1 k1
        rw [ha, hbb] at hab
        refine G_skip ?_
        refine G_seq ?_
        refine G_region' (L := [0]) rfl ?_
        refine xas ?_
        refine EOps_nil ?_
        refine G_seq ?_
        refine g_tidy_A182_2 [0, 1, 2, 3, 4, 5, 7, 8, 9, 10, 11, 12, 13, 14, 15, 25, 37] ?_
        refine G_region' (L := [0, 1, 2, 3, 4, 5, 6, 7, 8, 9]) rfl ?_
        refine x_light rfl rfl rfl (L_load rfl (by first | exact d_bp ty_29 | exact ld_rp ty_29 rfl | exact d_ep ty_29)) ?_
        refine x_light rfl rfl rfl (L_load rfl (by first | exact d_bp ty_34 | exact ld_rp ty_34 rfl | exact d_ep ty_34)) ?_
        refine xmv ?_
        refine xmv ?_
        refine x_call rfl rfl rfl rfl rfl ca_72 (c_impl_ChoosePivot cur st a b hcur hset (by omega)) ?_
        rintro r S ⟨rfl, rfl⟩
        generalize chP cur st a b = md at *
        have hmb : -1000 ≤ md ∧ md ≤ 1000 := by simpa [bnd, isIn] using bm
        have o1 := chgs_ok (q := 0) hcur bm
        have o2 := chgs_ok (q := 0) k1 bm1
        have hol := okL_app (okL_app hok o1) o2
        have hol1 := (okL_app hok o1).1
        have ht2 := okL_tot o1
        have hl2 := o1.1
        refine xmv ?_
        refine x_pure rfl rfl rfl (L_extract rfl rfl) ?_
        refine x_pure rfl rfl rfl (L_extract rfl rfl) ?_
        refine xas ?_
        refine EOps_go rfl rfl (EOp_store rfl rfl rfl (by first | exact s_bp ty_34 | exact s_ep ty_34) ?_)
        refine EOps_nil ?_
        refine G_seq ?_
        refine g_tidy_A182_2 [0, 1, 2, 3, 4, 5, 7, 8, 9, 10, 11, 12, 13, 14, 15, 25, 37] ?_
        refine G_region' (L := [0, 1, 2]) rfl ?_
        refine xmv ?_
        refine xmv ?_
        refine x_frameC [5, 10, 7, 3, 4, 11, 12, 13] rfl rfl rfl rfl rfl ca_68 rfl (c_impl_cracking_1A q cur md (totW l1) hcur bm ⟨by omega, by omega⟩) ?_
        rintro r S ⟨r0, S0, ⟨rfl, rfl⟩, rfl, rfl⟩
        generalize chgs 0 cur md = L1 at *
        generalize crackC cur md = P at *
        obtain ⟨c1, s1⟩ := P
        dsimp only at *
        refine EOps_nil ?_
        refine g_tidy_A182_2 [0, 1, 2, 3, 4, 5, 7, 8, 9, 10, 11, 12, 13, 14, 15, 25, 37] ?_
        refine G_region' (L := [0, 1, 2, 3]) rfl ?_
        refine xmv ?_
        refine xmv ?_
        refine x_pure rfl rfl rfl (by first | exact l_add rfl rfl rfl | exact L_bin rfl rfl rfl rfl) ?_
        refine x_frameC [5, 10, 7, 3, 4, 14, 15, 16] rfl rfl rfl rfl rfl ca_68 rfl (c_impl_cracking_1A q c1 (md + 1) (totW l1 + totW L1) k1 bm1 ⟨by omega, by omega⟩) ?_
        rintro r S ⟨r0, S0, ⟨rfl, rfl⟩, rfl, rfl⟩
        generalize chgs 0 c1 (md + 1) = L2 at *
        generalize crackC c1 (md + 1) = P at *
        obtain ⟨c2, s2⟩ := P
        dsimp only at *
        refine EOps_nil ?_
        refine ⟨[5, 6, 7, 8, 9, 10, 17, 18, 19], rfl, (f', c2, setN st, l1 ++ L1 ++ L2), ?_, ?_, (by simp only [totW_app]; rfl), trivial, ⟨.inr rfl, .inr rfl, .inr rfl, .inr rfl, .inr rfl, .inr rfl, .inr rfl, .inr rfl, .inr rfl, .inr rfl, .inr rfl, .inr rfl, trivial⟩⟩
        · first | omega | (dsimp only; omega) | (simp; omega)
        · exact ⟨k2, setN_ok hset, hgs.symm.trans hgo, by dsimp only; omega, by dsimp only; omega, okL_mono (okL_mono hol (Nat.le_refl _)) (by dsimp only; omega)⟩
    · have hst : stopW cur st v = true := by
        rw [stopW]
        first
          | (have h1 : st.pol = 0 := by simpa using hg20
             simp [h1]; done)
          | (have h1 : isPv cur.piv v = true := by simpa using hc25
             simp [h1])
      rw [if_pos hst] at hgs
      have hres : goW 0 v 4000 c s [] = (cur, st, l1) := hgo.symm.trans hgs
      have hW : withW 0 c s v [] = ((crackC cur v).1, st, l1 ++ chgs 0 cur v) := by rw [withW, hres]
      refine G_exit ?_
      refine G_seq ?_
      refine g_tidy_A182_2 [0, 1, 2, 3, 4, 5, 7, 8, 9, 10, 11, 12, 13, 14, 15, 25, 37] ?_
      refine G_region' (L := [0, 1, 2]) rfl ?_
      refine xmv ?_
      refine xmv ?_
      refine x_frameC [5, 10, 7, 3, 4, 11, 12, 13] rfl rfl rfl rfl rfl ca_68 rfl (c_impl_cracking_1A q cur v (totW l1) hcur hv ⟨by omega, by omega⟩) ?_
      rintro r S ⟨r0, S0, ⟨rfl, rfl⟩, rfl, rfl⟩
      refine EOps_nil ?_
      refine G_seq ?_
      refine G_drawU mixed ?_
      refine u_any 0 [1, 2] ⟨?_, ?_, ?_, trivial⟩
      · refine u_op 0 rfl rfl (EOp_light rfl (by decide) (L_load rfl (by first | exact d_bp ty_29 | exact ld_rp ty_29 rfl | exact d_ep ty_29)) ?_)
        refine u_any 1 [2, 3] ⟨?_, ?_, ?_, trivial⟩
        · refine u_op 1 rfl rfl (EOp_light rfl (by decide) (L_load rfl (by first | exact d_bp ty_34 | exact ld_rp ty_34 rfl | exact d_ep ty_34)) ?_)
          refine u_any 2 [3] ⟨?_, ?_, trivial⟩
          · refine u_op 2 rfl rfl (EOp_light rfl (by decide) (L_load rfl (by first | exact d_bp ty_3 | exact ld_rp ty_3 rfl | exact d_ep ty_3)) ?_)
            refine u_any 3 [] ⟨?_, trivial⟩
            refine u_op 3 rfl rfl (EOp_store rfl rfl rfl (by first | exact s_bp ty_29 | exact s_ep ty_29) ?_)
            refine u_any 4 [] ⟨?_, trivial⟩
            refine u_op 4 rfl rfl (EOp_store rfl rfl rfl (by first | exact s_bp ty_34 | exact s_ep ty_34) ?_)
            refine u_pure 5 rfl rfl rfl (L_assign rfl) ?_
            refine u_done ?_
            refine G_ret ?_
            rw [hW, totW_app]
            exact ⟨_, [14, 15, 16], rfl, rfl, rfl, rfl⟩
          · refine u_op 3 rfl rfl (EOp_store rfl rfl rfl (by first | exact s_bp ty_29 | exact s_ep ty_29) ?_)
            refine u_any 2 [4] ⟨?_, ?_, trivial⟩
            · refine u_op 2 rfl rfl (EOp_light rfl (by decide) (L_load rfl (by first | exact d_bp ty_3 | exact ld_rp ty_3 rfl | exact d_ep ty_3)) ?_)
              refine u_any 4 [] ⟨?_, trivial⟩
              refine u_op 4 rfl rfl (EOp_store rfl rfl rfl (by first | exact s_bp ty_34 | exact s_ep ty_34) ?_)
              refine u_pure 5 rfl rfl rfl (L_assign rfl) ?_
              refine u_done ?_
              refine G_ret ?_
              rw [hW, totW_app]
              exact ⟨_, [14, 15, 16], rfl, rfl, rfl, rfl⟩
            · refine u_op 4 rfl rfl (EOp_store rfl rfl rfl (by first | exact s_bp ty_34 | exact s_ep ty_34) ?_)
              refine u_any 2 [] ⟨?_, trivial⟩
              refine u_op 2 rfl rfl (EOp_light rfl (by decide) (L_load rfl (by first | exact d_bp ty_3 | exact ld_rp ty_3 rfl | exact d_ep ty_3)) ?_)
              refine u_pure 5 rfl rfl rfl (L_assign rfl) ?_
              refine u_done ?_
              refine G_ret ?_
              rw [hW, totW_app]
              exact ⟨_, [14, 15, 16], rfl, rfl, rfl, rfl⟩
        · refine u_op 2 rfl rfl (EOp_light rfl (by decide) (L_load rfl (by first | exact d_bp ty_3 | exact ld_rp ty_3 rfl | exact d_ep ty_3)) ?_)
          refine u_any 1 [3] ⟨?_, ?_, trivial⟩
          · refine u_op 1 rfl rfl (EOp_light rfl (by decide) (L_load rfl (by first | exact d_bp ty_34 | exact ld_rp ty_34 rfl | exact d_ep ty_34)) ?_)
            refine u_any 3 [] ⟨?_, trivial⟩
            refine u_op 3 rfl rfl (EOp_store rfl rfl rfl (by first | exact s_bp ty_29 | exact s_ep ty_29) ?_)
            refine u_any 4 [] ⟨?_, trivial⟩
            refine u_op 4 rfl rfl (EOp_store rfl rfl rfl (by first | exact s_bp ty_34 | exact s_ep ty_34) ?_)
            refine u_pure 5 rfl rfl rfl (L_assign rfl) ?_
            refine u_done ?_
            refine G_ret ?_
            rw [hW, totW_app]
            exact ⟨_, [14, 15, 16], rfl, rfl, rfl, rfl⟩
          · refine u_op 3 rfl rfl (EOp_store rfl rfl rfl (by first | exact s_bp ty_29 | exact s_ep ty_29) ?_)
            refine u_any 1 [] ⟨?_, trivial⟩
            refine u_op 1 rfl rfl (EOp_light rfl (by decide) (L_load rfl (by first | exact d_bp ty_34 | exact ld_rp ty_34 rfl | exact d_ep ty_34)) ?_)
            refine u_any 4 [] ⟨?_, trivial⟩
            refine u_op 4 rfl rfl (EOp_store rfl rfl rfl (by first | exact s_bp ty_34 | exact s_ep ty_34) ?_)
            refine u_pure 5 rfl rfl rfl (L_assign rfl) ?_
            refine u_done ?_
            refine G_ret ?_
            rw [hW, totW_app]
            exact ⟨_, [14, 15, 16], rfl, rfl, rfl, rfl⟩
        · refine u_op 3 rfl rfl (EOp_store rfl rfl rfl (by first | exact s_bp ty_29 | exact s_ep ty_29) ?_)
          refine u_any 1 [2] ⟨?_, ?_, trivial⟩
          · refine u_op 1 rfl rfl (EOp_light rfl (by decide) (L_load rfl (by first | exact d_bp ty_34 | exact ld_rp ty_34 rfl | exact d_ep ty_34)) ?_)
            refine u_any 2 [4] ⟨?_, ?_, trivial⟩
            · refine u_op 2 rfl rfl (EOp_light rfl (by decide) (L_load rfl (by first | exact d_bp ty_3 | exact ld_rp ty_3 rfl | exact d_ep ty_3)) ?_)
              refine u_any 4 [] ⟨?_, trivial⟩
              refine u_op 4 rfl rfl (EOp_store rfl rfl rfl (by first | exact s_bp ty_34 | exact s_ep ty_34) ?_)
              refine u_pure 5 rfl rfl rfl (L_assign rfl) ?_
              refine u_done ?_
              refine G_ret ?_
              rw [hW, totW_app]
              exact ⟨_, [14, 15, 16], rfl, rfl, rfl, rfl⟩
            · refine u_op 4 rfl rfl (EOp_store rfl rfl rfl (by first | exact s_bp ty_34 | exact s_ep ty_34) ?_)
              refine u_any 2 [] ⟨?_, trivial⟩
              refine u_op 2 rfl rfl (EOp_light rfl (by decide) (L_load rfl (by first | exact d_bp ty_3 | exact ld_rp ty_3 rfl | exact d_ep ty_3)) ?_)
              refine u_pure 5 rfl rfl rfl (L_assign rfl) ?_
              refine u_done ?_
              refine G_ret ?_
              rw [hW, totW_app]
              exact ⟨_, [14, 15, 16], rfl, rfl, rfl, rfl⟩
          · refine u_op 2 rfl rfl (EOp_light rfl (by decide) (L_load rfl (by first | exact d_bp ty_3 | exact ld_rp ty_3 rfl | exact d_ep ty_3)) ?_)
            refine u_any 1 [] ⟨?_, trivial⟩
            refine u_op 1 rfl rfl (EOp_light rfl (by decide) (L_load rfl (by first | exact d_bp ty_34 | exact ld_rp ty_34 rfl | exact d_ep ty_34)) ?_)
            refine u_any 4 [] ⟨?_, trivial⟩
            refine u_op 4 rfl rfl (EOp_store rfl rfl rfl (by first | exact s_bp ty_34 | exact s_ep ty_34) ?_)
            refine u_pure 5 rfl rfl rfl (L_assign rfl) ?_
            refine u_done ?_
            refine G_ret ?_
            rw [hW, totW_app]
            exact ⟨_, [14, 15, 16], rfl, rfl, rfl, rfl⟩
      · refine u_op 1 rfl rfl (EOp_light rfl (by decide) (L_load rfl (by first | exact d_bp ty_34 | exact ld_rp ty_34 rfl | exact d_ep ty_34)) ?_)
        refine u_any 0 [2] ⟨?_, ?_, trivial⟩
        · refine u_op 0 rfl rfl (EOp_light rfl (by decide) (L_load rfl (by first | exact d_bp ty_29 | exact ld_rp ty_29 rfl | exact d_ep ty_29)) ?_)
          refine u_any 2 [3] ⟨?_, ?_, trivial⟩
          · refine u_op 2 rfl rfl (EOp_light rfl (by decide) (L_load rfl (by first | exact d_bp ty_3 | exact ld_rp ty_3 rfl | exact d_ep ty_3)) ?_)
            refine u_any 3 [] ⟨?_, trivial⟩
            refine u_op 3 rfl rfl (EOp_store rfl rfl rfl (by first | exact s_bp ty_29 | exact s_ep ty_29) ?_)
            refine u_any 4 [] ⟨?_, trivial⟩
            refine u_op 4 rfl rfl (EOp_store rfl rfl rfl (by first | exact s_bp ty_34 | exact s_ep ty_34) ?_)
            refine u_pure 5 rfl rfl rfl (L_assign rfl) ?_
            refine u_done ?_
            refine G_ret ?_
            rw [hW, totW_app]
            exact ⟨_, [14, 15, 16], rfl, rfl, rfl, rfl⟩
          · refine u_op 3 rfl rfl (EOp_store rfl rfl rfl (by first | exact s_bp ty_29 | exact s_ep ty_29) ?_)
            refine u_any 2 [4] ⟨?_, ?_, trivial⟩
            · refine u_op 2 rfl rfl (EOp_light rfl (by decide) (L_load rfl (by first | exact d_bp ty_3 | exact ld_rp ty_3 rfl | exact d_ep ty_3)) ?_)
              refine u_any 4 [] ⟨?_, trivial⟩
              refine u_op 4 rfl rfl (EOp_store rfl rfl rfl (by first | exact s_bp ty_34 | exact s_ep ty_34) ?_)
              refine u_pure 5 rfl rfl rfl (L_assign rfl) ?_
              refine u_done ?_
              refine G_ret ?_
              rw [hW, totW_app]
              exact ⟨_, [14, 15, 16], rfl, rfl, rfl, rfl⟩
            · refine u_op 4 rfl rfl (EOp_store rfl rfl rfl (by first | exact s_bp ty_34 | exact s_ep ty_34) ?_)
              refine u_any 2 [] ⟨?_, trivial⟩
              refine u_op 2 rfl rfl (EOp_light rfl (by decide) (L_load rfl (by first | exact d_bp ty_3 | exact ld_rp ty_3 rfl | exact d_ep ty_3)) ?_)
              refine u_pure 5 rfl rfl rfl (L_assign rfl) ?_
              refine u_done ?_
              refine G_ret ?_
              rw [hW, totW_app]
              exact ⟨_, [14, 15, 16], rfl, rfl, rfl, rfl⟩
        · refine u_op 2 rfl rfl (EOp_light rfl (by decide) (L_load rfl (by first | exact d_bp ty_3 | exact ld_rp ty_3 rfl | exact d_ep ty_3)) ?_)
          refine u_any 0 [] ⟨?_, trivial⟩
          refine u_op 0 rfl rfl (EOp_light rfl (by decide) (L_load rfl (by first | exact d_bp ty_29 | exact ld_rp ty_29 rfl | exact d_ep ty_29)) ?_)
          refine u_any 3 [] ⟨?_, trivial⟩
          refine u_op 3 rfl rfl (EOp_store rfl rfl rfl (by first | exact s_bp ty_29 | exact s_ep ty_29) ?_)
          refine u_any 4 [] ⟨?_, trivial⟩
          refine u_op 4 rfl rfl (EOp_store rfl rfl rfl (by first | exact s_bp ty_34 | exact s_ep ty_34) ?_)
          refine u_pure 5 rfl rfl rfl (L_assign rfl) ?_
          refine u_done ?_
          refine G_ret ?_
          rw [hW, totW_app]
          exact ⟨_, [14, 15, 16], rfl, rfl, rfl, rfl⟩
      · refine u_op 2 rfl rfl (EOp_light rfl (by decide) (L_load rfl (by first | exact d_bp ty_3 | exact ld_rp ty_3 rfl | exact d_ep ty_3)) ?_)
        refine u_any 0 [1] ⟨?_, ?_, trivial⟩
        · refine u_op 0 rfl rfl (EOp_light rfl (by decide) (L_load rfl (by first | exact d_bp ty_29 | exact ld_rp ty_29 rfl | exact d_ep ty_29)) ?_)
          refine u_any 1 [3] ⟨?_, ?_, trivial⟩
          · refine u_op 1 rfl rfl (EOp_light rfl (by decide) (L_load rfl (by first | exact d_bp ty_34 | exact ld_rp ty_34 rfl | exact d_ep ty_34)) ?_)
            refine u_any 3 [] ⟨?_, trivial⟩
            refine u_op 3 rfl rfl (EOp_store rfl rfl rfl (by first | exact s_bp ty_29 | exact s_ep ty_29) ?_)
            refine u_any 4 [] ⟨?_, trivial⟩
            refine u_op 4 rfl rfl (EOp_store rfl rfl rfl (by first | exact s_bp ty_34 | exact s_ep ty_34) ?_)
            refine u_pure 5 rfl rfl rfl (L_assign rfl) ?_
            refine u_done ?_
            refine G_ret ?_
            rw [hW, totW_app]
            exact ⟨_, [14, 15, 16], rfl, rfl, rfl, rfl⟩
          · refine u_op 3 rfl rfl (EOp_store rfl rfl rfl (by first | exact s_bp ty_29 | exact s_ep ty_29) ?_)
            refine u_any 1 [] ⟨?_, trivial⟩
            refine u_op 1 rfl rfl (EOp_light rfl (by decide) (L_load rfl (by first | exact d_bp ty_34 | exact ld_rp ty_34 rfl | exact d_ep ty_34)) ?_)
            refine u_any 4 [] ⟨?_, trivial⟩
            refine u_op 4 rfl rfl (EOp_store rfl rfl rfl (by first | exact s_bp ty_34 | exact s_ep ty_34) ?_)
            refine u_pure 5 rfl rfl rfl (L_assign rfl) ?_
            refine u_done ?_
            refine G_ret ?_
            rw [hW, totW_app]
            exact ⟨_, [14, 15, 16], rfl, rfl, rfl, rfl⟩
        · refine u_op 1 rfl rfl (EOp_light rfl (by decide) (L_load rfl (by first | exact d_bp ty_34 | exact ld_rp ty_34 rfl | exact d_ep ty_34)) ?_)
          refine u_any 0 [] ⟨?_, trivial⟩
          refine u_op 0 rfl rfl (EOp_light rfl (by decide) (L_load rfl (by first | exact d_bp ty_29 | exact ld_rp ty_29 rfl | exact d_ep ty_29)) ?_)
          refine u_any 3 [] ⟨?_, trivial⟩
          refine u_op 3 rfl rfl (EOp_store rfl rfl rfl (by first | exact s_bp ty_29 | exact s_ep ty_29) ?_)
          refine u_any 4 [] ⟨?_, trivial⟩
          refine u_op 4 rfl rfl (EOp_store rfl rfl rfl (by first | exact s_bp ty_34 | exact s_ep ty_34) ?_)
          refine u_pure 5 rfl rfl rfl (L_assign rfl) ?_
          refine u_done ?_
          refine G_ret ?_
          rw [hW, totW_app]
          exact ⟨_, [14, 15, 16], rfl, rfl, rfl, rfl⟩
  · refine x_skip rfl rfl rfl ?_
    refine x_skip rfl rfl rfl ?_
    refine x_skip rfl rfl rfl ?_
    refine x_skip rfl rfl rfl ?_
    refine x_pure rfl rfl rfl (L_pick rfl rfl) ?_
    refine EOps_nil ?_
    refine G_cond rfl (fun hc25 => ?_) (fun hc25 => ?_)
    · exact Bool.noConfusion (hc25 : false = true)
    · have hst : stopW cur st v = true := by
        rw [stopW]
        first
          | (have h1 : st.pol = 0 := by simpa using hg20
             simp [h1]; done)
          | (have h1 : isPv cur.piv v = true := by simpa using hc25
             simp [h1])
      rw [if_pos hst] at hgs
      have hres : goW 0 v 4000 c s [] = (cur, st, l1) := hgo.symm.trans hgs
      have hW : withW 0 c s v [] = ((crackC cur v).1, st, l1 ++ chgs 0 cur v) := by rw [withW, hres]
      refine G_exit ?_
      refine G_seq ?_
      refine g_tidy_A182_2 [0, 1, 2, 3, 4, 5, 7, 8, 9, 10, 11, 12, 13, 14, 15, 25, 37] ?_
      refine G_region' (L := [0, 1, 2]) rfl ?_
      refine xmv ?_
      refine xmv ?_
      refine x_frameC [5, 10, 7, 3, 4, 11, 12, 13] rfl rfl rfl rfl rfl ca_68 rfl (c_impl_cracking_1A q cur v (totW l1) hcur hv ⟨by omega, by omega⟩) ?_
      rintro r S ⟨r0, S0, ⟨rfl, rfl⟩, rfl, rfl⟩
      refine EOps_nil ?_
      refine G_seq ?_
      refine G_drawU mixed ?_
      refine u_any 0 [1, 2] ⟨?_, ?_, ?_, trivial⟩
      · refine u_op 0 rfl rfl (EOp_light rfl (by decide) (L_load rfl (by first | exact d_bp ty_29 | exact ld_rp ty_29 rfl | exact d_ep ty_29)) ?_)
        refine u_any 1 [2, 3] ⟨?_, ?_, ?_, trivial⟩
        · refine u_op 1 rfl rfl (EOp_light rfl (by decide) (L_load rfl (by first | exact d_bp ty_34 | exact ld_rp ty_34 rfl | exact d_ep ty_34)) ?_)
          refine u_any 2 [3] ⟨?_, ?_, trivial⟩
          · refine u_op 2 rfl rfl (EOp_light rfl (by decide) (L_load rfl (by first | exact d_bp ty_3 | exact ld_rp ty_3 rfl | exact d_ep ty_3)) ?_)
            refine u_any 3 [] ⟨?_, trivial⟩
            refine u_op 3 rfl rfl (EOp_store rfl rfl rfl (by first | exact s_bp ty_29 | exact s_ep ty_29) ?_)
            refine u_any 4 [] ⟨?_, trivial⟩
            refine u_op 4 rfl rfl (EOp_store rfl rfl rfl (by first | exact s_bp ty_34 | exact s_ep ty_34) ?_)
            refine u_pure 5 rfl rfl rfl (L_assign rfl) ?_
            refine u_done ?_
            refine G_ret ?_
            rw [hW, totW_app]
            exact ⟨_, [14, 15, 16], rfl, rfl, rfl, rfl⟩
          · refine u_op 3 rfl rfl (EOp_store rfl rfl rfl (by first | exact s_bp ty_29 | exact s_ep ty_29) ?_)
            refine u_any 2 [4] ⟨?_, ?_, trivial⟩
            · refine u_op 2 rfl rfl (EOp_light rfl (by decide) (L_load rfl (by first | exact d_bp ty_3 | exact ld_rp ty_3 rfl | exact d_ep ty_3)) ?_)
              refine u_any 4 [] ⟨?_, trivial⟩
              refine u_op 4 rfl rfl (EOp_store rfl rfl rfl (by first | exact s_bp ty_34 | exact s_ep ty_34) ?_)
              refine u_pure 5 rfl rfl rfl (L_assign rfl) ?_
              refine u_done ?_
              refine G_ret ?_
              rw [hW, totW_app]
              exact ⟨_, [14, 15, 16], rfl, rfl, rfl, rfl⟩
            · refine u_op 4 rfl rfl (EOp_store rfl rfl rfl (by first | exact s_bp ty_34 | exact s_ep ty_34) ?_)
              refine u_any 2 [] ⟨?_, trivial⟩
              refine u_op 2 rfl rfl (EOp_light rfl (by decide) (L_load rfl (by first | exact d_bp ty_3 | exact ld_rp ty_3 rfl | exact d_ep ty_3)) ?_)
              refine u_pure 5 rfl rfl rfl (L_assign rfl) ?_
              refine u_done ?_
              refine G_ret ?_
              rw [hW, totW_app]
              exact ⟨_, [14, 15, 16], rfl, rfl, rfl, rfl⟩
        · refine u_op 2 rfl rfl (EOp_light rfl (by decide) (L_load rfl (by first | exact d_bp ty_3 | exact ld_rp ty_3 rfl | exact d_ep ty_3)) ?_)
          refine u_any 1 [3] ⟨?_, ?_, trivial⟩
          · refine u_op 1 rfl rfl (EOp_light rfl (by decide) (L_load rfl (by first | exact d_bp ty_34 | exact ld_rp ty_34 rfl | exact d_ep ty_34)) ?_)
            refine u_any 3 [] ⟨?_, trivial⟩
            refine u_op 3 rfl rfl (EOp_store rfl rfl rfl (by first | exact s_bp ty_29 | exact s_ep ty_29) ?_)
            refine u_any 4 [] ⟨?_, trivial⟩
            refine u_op 4 rfl rfl (EOp_store rfl rfl rfl (by first | exact s_bp ty_34 | exact s_ep ty_34) ?_)
            refine u_pure 5 rfl rfl rfl (L_assign rfl) ?_
            refine u_done ?_
            refine G_ret ?_
            rw [hW, totW_app]
            exact ⟨_, [14, 15, 16], rfl, rfl, rfl, rfl⟩
          · refine u_op 3 rfl rfl (EOp_store rfl rfl rfl (by first | exact s_bp ty_29 | exact s_ep ty_29) ?_)
            refine u_any 1 [] ⟨?_, trivial⟩
            refine u_op 1 rfl rfl (EOp_light rfl (by decide) (L_load rfl (by first | exact d_bp ty_34 | exact ld_rp ty_34 rfl | exact d_ep ty_34)) ?_)
            refine u_any 4 [] ⟨?_, trivial⟩
            refine u_op 4 rfl rfl (EOp_store rfl rfl rfl (by first | exact s_bp ty_34 | exact s_ep ty_34) ?_)
            refine u_pure 5 rfl rfl rfl (L_assign rfl) ?_
            refine u_done ?_
            refine G_ret ?_
            rw [hW, totW_app]
            exact ⟨_, [14, 15, 16], rfl, rfl, rfl, rfl⟩
        · refine u_op 3 rfl rfl (EOp_store rfl rfl rfl (by first | exact s_bp ty_29 | exact s_ep ty_29) ?_)
          refine u_any 1 [2] ⟨?_, ?_, trivial⟩
          · refine u_op 1 rfl rfl (EOp_light rfl (by decide) (L_load rfl (by first | exact d_bp ty_34 | exact ld_rp ty_34 rfl | exact d_ep ty_34)) ?_)
            refine u_any 2 [4] ⟨?_, ?_, trivial⟩
            · refine u_op 2 rfl rfl (EOp_light rfl (by decide) (L_load rfl (by first | exact d_bp ty_3 | exact ld_rp ty_3 rfl | exact d_ep ty_3)) ?_)
              refine u_any 4 [] ⟨?_, trivial⟩
              refine u_op 4 rfl rfl (EOp_store rfl rfl rfl (by first | exact s_bp ty_34 | exact s_ep ty_34) ?_)
              refine u_pure 5 rfl rfl rfl (L_assign rfl) ?_
              refine u_done ?_
              refine G_ret ?_
              rw [hW, totW_app]
              exact ⟨_, [14, 15, 16], rfl, rfl, rfl, rfl⟩
            · refine u_op 4 rfl rfl (EOp_store rfl rfl rfl (by first | exact s_bp ty_34 | exact s_ep ty_34) ?_)
              refine u_any 2 [] ⟨?_, trivial⟩
              refine u_op 2 rfl rfl (EOp_light rfl (by decide) (L_load rfl (by first | exact d_bp ty_3 | exact ld_rp ty_3 rfl | exact d_ep ty_3)) ?_)
              refine u_pure 5 rfl rfl rfl (L_assign rfl) ?_
              refine u_done ?_
              refine G_ret ?_
              rw [hW, totW_app]
              exact ⟨_, [14, 15, 16], rfl, rfl, rfl, rfl⟩
          · refine u_op 2 rfl rfl (EOp_light rfl (by decide) (L_load rfl (by first | exact d_bp ty_3 | exact ld_rp ty_3 rfl | exact d_ep ty_3)) ?_)
            refine u_any 1 [] ⟨?_, trivial⟩
            refine u_op 1 rfl rfl (EOp_light rfl (by decide) (L_load rfl (by first | exact d_bp ty_34 | exact ld_rp ty_34 rfl | exact d_ep ty_34)) ?_)
            refine u_any 4 [] ⟨?_, trivial⟩
            refine u_op 4 rfl rfl (EOp_store rfl rfl rfl (by first | exact s_bp ty_34 | exact s_ep ty_34) ?_)
            refine u_pure 5 rfl rfl rfl (L_assign rfl) ?_
            refine u_done ?_
            refine G_ret ?_
            rw [hW, totW_app]
            exact ⟨_, [14, 15, 16], rfl, rfl, rfl, rfl⟩
      · refine u_op 1 rfl rfl (EOp_light rfl (by decide) (L_load rfl (by first | exact d_bp ty_34 | exact ld_rp ty_34 rfl | exact d_ep ty_34)) ?_)
        refine u_any 0 [2] ⟨?_, ?_, trivial⟩
        · refine u_op 0 rfl rfl (EOp_light rfl (by decide) (L_load rfl (by first | exact d_bp ty_29 | exact ld_rp ty_29 rfl | exact d_ep ty_29)) ?_)
          refine u_any 2 [3] ⟨?_, ?_, trivial⟩
          · refine u_op 2 rfl rfl (EOp_light rfl (by decide) (L_load rfl (by first | exact d_bp ty_3 | exact ld_rp ty_3 rfl | exact d_ep ty_3)) ?_)
            refine u_any 3 [] ⟨?_, trivial⟩
            refine u_op 3 rfl rfl (EOp_store rfl rfl rfl (by first | exact s_bp ty_29 | exact s_ep ty_29) ?_)
            refine u_any 4 [] ⟨?_, trivial⟩
            refine u_op 4 rfl rfl (EOp_store rfl rfl rfl (by first | exact s_bp ty_34 | exact s_ep ty_34) ?_)
            refine u_pure 5 rfl rfl rfl (L_assign rfl) ?_
            refine u_done ?_
            refine G_ret ?_
            rw [hW, totW_app]
            exact ⟨_, [14, 15, 16], rfl, rfl, rfl, rfl⟩
          · refine u_op 3 rfl rfl (EOp_store rfl rfl rfl (by first | exact s_bp ty_29 | exact s_ep ty_29) ?_)
            refine u_any 2 [4] ⟨?_, ?_, trivial⟩
            · refine u_op 2 rfl rfl (EOp_light rfl (by decide) (L_load rfl (by first | exact d_bp ty_3 | exact ld_rp ty_3 rfl | exact d_ep ty_3)) ?_)
              refine u_any 4 [] ⟨?_, trivial⟩
              refine u_op 4 rfl rfl (EOp_store rfl rfl rfl (by first | exact s_bp ty_34 | exact s_ep ty_34) ?_)
              refine u_pure 5 rfl rfl rfl (L_assign rfl) ?_
              refine u_done ?_
              refine G_ret ?_
              rw [hW, totW_app]
              exact ⟨_, [14, 15, 16], rfl, rfl, rfl, rfl⟩
            · refine u_op 4 rfl rfl (EOp_store rfl rfl rfl (by first | exact s_bp ty_34 | exact s_ep ty_34) ?_)
              refine u_any 2 [] ⟨?_, trivial⟩
              refine u_op 2 rfl rfl (EOp_light rfl (by decide) (L_load rfl (by first | exact d_bp ty_3 | exact ld_rp ty_3 rfl | exact d_ep ty_3)) ?_)
              refine u_pure 5 rfl rfl rfl (L_assign rfl) ?_
              refine u_done ?_
              refine G_ret ?_
              rw [hW, totW_app]
              exact ⟨_, [14, 15, 16], rfl, rfl, rfl, rfl⟩
        · refine u_op 2 rfl rfl (EOp_light rfl (by decide) (L_load rfl (by first | exact d_bp ty_3 | exact ld_rp ty_3 rfl | exact d_ep ty_3)) ?_)
          refine u_any 0 [] ⟨?_, trivial⟩
          refine u_op 0 rfl rfl (EOp_light rfl (by decide) (L_load rfl (by first | exact d_bp ty_29 | exact ld_rp ty_29 rfl | exact d_ep ty_29)) ?_)
          refine u_any 3 [] ⟨?_, trivial⟩
          refine u_op 3 rfl rfl (EOp_store rfl rfl rfl (by first | exact s_bp ty_29 | exact s_ep ty_29) ?_)
          refine u_any 4 [] ⟨?_, trivial⟩
          refine u_op 4 rfl rfl (EOp_store rfl rfl rfl (by first | exact s_bp ty_34 | exact s_ep ty_34) ?_)
          refine u_pure 5 rfl rfl rfl (L_assign rfl) ?_
          refine u_done ?_
          refine G_ret ?_
          rw [hW, totW_app]
          exact ⟨_, [14, 15, 16], rfl, rfl, rfl, rfl⟩
      · refine u_op 2 rfl rfl (EOp_light rfl (by decide) (L_load rfl (by first | exact d_bp ty_3 | exact ld_rp ty_3 rfl | exact d_ep ty_3)) ?_)
        refine u_any 0 [1] ⟨?_, ?_, trivial⟩
        · refine u_op 0 rfl rfl (EOp_light rfl (by decide) (L_load rfl (by first | exact d_bp ty_29 | exact ld_rp ty_29 rfl | exact d_ep ty_29)) ?_)
          refine u_any 1 [3] ⟨?_, ?_, trivial⟩
          · refine u_op 1 rfl rfl (EOp_light rfl (by decide) (L_load rfl (by first | exact d_bp ty_34 | exact ld_rp ty_34 rfl | exact d_ep ty_34)) ?_)
            refine u_any 3 [] ⟨?_, trivial⟩
            refine u_op 3 rfl rfl (EOp_store rfl rfl rfl (by first | exact s_bp ty_29 | exact s_ep ty_29) ?_)
            refine u_any 4 [] ⟨?_, trivial⟩
            refine u_op 4 rfl rfl (EOp_store rfl rfl rfl (by first | exact s_bp ty_34 | exact s_ep ty_34) ?_)
            refine u_pure 5 rfl rfl rfl (L_assign rfl) ?_
            refine u_done ?_
            refine G_ret ?_
            rw [hW, totW_app]
            exact ⟨_, [14, 15, 16], rfl, rfl, rfl, rfl⟩
          · refine u_op 3 rfl rfl (EOp_store rfl rfl rfl (by first | exact s_bp ty_29 | exact s_ep ty_29) ?_)
            refine u_any 1 [] ⟨?_, trivial⟩
            refine u_op 1 rfl rfl (EOp_light rfl (by decide) (L_load rfl (by first | exact d_bp ty_34 | exact ld_rp ty_34 rfl | exact d_ep ty_34)) ?_)
            refine u_any 4 [] ⟨?_, trivial⟩
            refine u_op 4 rfl rfl (EOp_store rfl rfl rfl (by first | exact s_bp ty_34 | exact s_ep ty_34) ?_)
            refine u_pure 5 rfl rfl rfl (L_assign rfl) ?_
            refine u_done ?_
            refine G_ret ?_
            rw [hW, totW_app]
            exact ⟨_, [14, 15, 16], rfl, rfl, rfl, rfl⟩
        · refine u_op 1 rfl rfl (EOp_light rfl (by decide) (L_load rfl (by first | exact d_bp ty_34 | exact ld_rp ty_34 rfl | exact d_ep ty_34)) ?_)
          refine u_any 0 [] ⟨?_, trivial⟩
          refine u_op 0 rfl rfl (EOp_light rfl (by decide) (L_load rfl (by first | exact d_bp ty_29 | exact ld_rp ty_29 rfl | exact d_ep ty_29)) ?_)
          refine u_any 3 [] ⟨?_, trivial⟩
          refine u_op 3 rfl rfl (EOp_store rfl rfl rfl (by first | exact s_bp ty_29 | exact s_ep ty_29) ?_)
          refine u_any 4 [] ⟨?_, trivial⟩
          refine u_op 4 rfl rfl (EOp_store rfl rfl rfl (by first | exact s_bp ty_34 | exact s_ep ty_34) ?_)
          refine u_pure 5 rfl rfl rfl (L_assign rfl) ?_
          refine u_done ?_
          refine G_ret ?_
          rw [hW, totW_app]
          exact ⟨_, [14, 15, 16], rfl, rfl, rfl, rfl⟩

set_option maxRecDepth 20000 in
set_option maxHeartbeats 8000000 in
theorem c_impl_selectingA (q : Int) (c : Crk) (s : Sett) (r : Int × Int) (hc : isCrk c = true) (hs : isSet s = true) (hr : isRng r = true) : EFn Tryz.prog 45 [.agg (crkO 0 c), .agg (setC s), .agg [.sc (.int .i64 r.1), .sc (.int .i64 r.2)], .c (.fn 46 [.bp 3 0, .bp 4 0])] [.row 3 1 (ints c.vals), .row 3 1 (ints c.rows), .row 76 2 (pairs c.piv), .box [.fn 29 []], .box [.sc (.int .i64 q)]] (fun y S => y = .tup [(true, crkO 5 (sw2 c s r).1), (true, setC (sw2 c s r).2.1), (false, [.sl 8 0 (swR (sw2 c s r).1 r).length (swR (sw2 c s r).1 r).length]), (false, [.sc (.int .i64 (totW (sw1 c s r).2.2 + totW (sw2 c s r).2.2))])] ∧ S = [.gone, .gone, .gone, .box [.fn 29 []], .box [.sc (.int .i64 q)], .row 3 1 (ints (sw2 c s r).1.vals), .row 3 1 (ints (sw2 c s r).1.rows), .row 76 2 (pairs (sw2 c s r).1.piv), .row 3 1 (ints (swR (sw2 c s r).1 r))]) := by
 refine E_fn Tryz.func45 rfl (Nat.le_of_ble_eq_true rfl) ?_
 refine E_G (n := 5) rfl ?_
 obtain ⟨b1, b2⟩ := rng_bnd hr
 have hok := sw_ok hc hs hr
 have hcl := crk_lens hc
 have hc1l := crk_lens hok.c1
 have hc2l := crk_lens hok.c2
 have ht1 := okL_tot hok.l1
 have ht2 := okL_tot hok.l2
 have hl1 := hok.l1.1
 have hl2 := hok.l2.1
 refine G_seq ?_
 refine G_region' (L := [0, 1, 2, 3, 4, 5, 6]) rfl ?_
 refine x_box rfl rfl rfl rfl rfl ?_
 refine x_box rfl rfl rfl rfl rfl ?_
 refine x_box rfl rfl rfl rfl rfl ?_
 refine x_alloc rfl rfl rfl rfl za_29 ?_
 refine x_alloc rfl rfl rfl rfl za_34 ?_
 refine xas ?_
 refine xas ?_
 refine EOps_nil ?_
 refine G_seq ?_
 refine g_tidy_A182_2 [0, 1, 2, 3, 4, 5, 6, 8, 9, 10, 11] ?_
 refine G_region' (L := [0, 1, 2, 3, 4, 5, 6, 7, 8, 9, 10, 11, 12]) rfl ?_
 refine x_light rfl rfl rfl (L_load rfl (by first | exact d_bp ty_29 | exact ld_rp ty_29 rfl | exact d_ep ty_29)) ?_
 refine x_light rfl rfl rfl (L_load rfl (by first | exact d_bp ty_34 | exact ld_rp ty_34 rfl | exact d_ep ty_34)) ?_
 refine x_pure rfl rfl rfl (l_field rfl fo_54_0) ?_
 refine x_light rfl rfl rfl (L_load rfl (by first | exact d_bp ty_3 | exact ld_rp ty_3 rfl | exact d_ep ty_3)) ?_
 refine xmv ?_
 refine x_frame [0, 1, 2, 3, 4] rfl rfl rfl rfl rfl ca_58 rfl (c_impl_crackingA q c s r.1 hc hs b1) ?_
 rintro r S ⟨r0, S0, ⟨rfl, rfl⟩, rfl, rfl⟩
 rw [show (withW 0 c s r.1 []) = sw1 c s r from rfl]
 refine xmv ?_
 refine x_pure rfl rfl rfl (L_extract rfl rfl) ?_
 refine x_pure rfl rfl rfl (L_extract rfl rfl) ?_
 refine x_pure rfl rfl rfl (L_extract rfl rfl) ?_
 refine EOps_go rfl rfl (EOp_store rfl rfl rfl (by first | exact s_bp ty_29 | exact s_ep ty_29) ?_)
 refine EOps_go rfl rfl (EOp_store rfl rfl rfl (by first | exact s_bp ty_34 | exact s_ep ty_34) ?_)
 refine xas ?_
 refine EOps_nil ?_
 refine G_seq ?_
 refine g_tidy_A182_2 [0, 1, 2, 3, 4, 5, 6, 8, 9, 10, 11, 12] ?_
 refine G_region' (L := [0, 1, 2, 3, 4, 5, 6, 7, 8, 9, 10, 11, 12]) rfl ?_
 refine x_light rfl rfl rfl (L_load rfl (by first | exact d_bp ty_29 | exact ld_rp ty_29 rfl | exact d_ep ty_29)) ?_
 refine x_light rfl rfl rfl (L_load rfl (by first | exact d_bp ty_34 | exact ld_rp ty_34 rfl | exact d_ep ty_34)) ?_
 refine x_pure rfl rfl rfl (l_field rfl fo_54_1) ?_
 refine x_light rfl rfl rfl (L_load rfl (by first | exact d_bp ty_3 | exact ld_rp ty_3 rfl | exact d_ep ty_3)) ?_
 refine xmv ?_
 refine x_frame [10, 11, 12, 3, 4] rfl rfl rfl rfl rfl ca_58 rfl (c_impl_crackingA q (sw1 c s r).1 (sw1 c s r).2.1 r.2 hok.c1 hok.s1 b2) ?_
 rintro r S ⟨r0, S0, ⟨rfl, rfl⟩, rfl, rfl⟩
 rw [show (withW 0 (sw1 c s r).1 (sw1 c s r).2.1 r.2 []) = sw2 c s r from rfl]
 refine xmv ?_
 refine x_pure rfl rfl rfl (L_extract rfl rfl) ?_
 refine x_pure rfl rfl rfl (L_extract rfl rfl) ?_
 refine x_pure rfl rfl rfl (L_extract rfl rfl) ?_
 refine EOps_go rfl rfl (EOp_store rfl rfl rfl (by first | exact s_bp ty_29 | exact s_ep ty_29) ?_)
 refine EOps_go rfl rfl (EOp_store rfl rfl rfl (by first | exact s_bp ty_34 | exact s_ep ty_34) ?_)
 refine xas ?_
 refine EOps_nil ?_
 refine G_seq ?_
 refine g_tidy_A182_2 [0, 1, 2, 3, 4, 5, 6, 8, 9, 10, 11, 12, 13] ?_
 refine G_region' (L := [0, 1, 2, 3, 4, 5, 6, 7, 8]) rfl ?_
 refine x_light rfl rfl rfl (L_load rfl (by first | exact d_bp ty_29 | exact ld_rp ty_29 rfl | exact d_ep ty_29)) ?_
 refine x_pure rfl rfl rfl (l_field rfl fo_54_0) ?_
 refine x_light rfl rfl rfl (L_load rfl (by first | exact d_bp ty_3 | exact ld_rp ty_3 rfl | exact d_ep ty_3)) ?_
 refine x_call rfl rfl rfl rfl rfl ca_59 (c_impl_FindPivot (sw2 c s r).1 r.1 (by omega)) ?_
 rintro r S ⟨rfl, rfl⟩
 refine xmv ?_
 refine x_pure rfl rfl rfl (L_extract rfl rfl) ?_
 refine x_pure rfl rfl rfl (L_extract rfl rfl) ?_
 refine xas ?_
 refine xas ?_
 refine EOps_nil ?_
 refine G_seq ?_
 refine g_tidy_A182_2 [0, 1, 2, 3, 4, 5, 6, 8, 9, 10, 11, 12, 13, 14] ?_
 refine G_region' (L := [0, 1, 2, 3, 4, 5, 6, 7, 8]) rfl ?_
 refine x_light rfl rfl rfl (L_load rfl (by first | exact d_bp ty_29 | exact ld_rp ty_29 rfl | exact d_ep ty_29)) ?_
 refine x_pure rfl rfl rfl (l_field rfl fo_54_1) ?_
 refine x_light rfl rfl rfl (L_load rfl (by first | exact d_bp ty_3 | exact ld_rp ty_3 rfl | exact d_ep ty_3)) ?_
 refine x_call rfl rfl rfl rfl rfl ca_59 (c_impl_FindPivot (sw2 c s r).1 r.2 (by omega)) ?_
 rintro r S ⟨rfl, rfl⟩
 refine xmv ?_
 refine x_pure rfl rfl rfl (L_extract rfl rfl) ?_
 refine x_pure rfl rfl rfl (L_extract rfl rfl) ?_
 refine xas ?_
 refine xas ?_
 refine EOps_nil ?_
 refine G_seq ?_
 refine g_tidy_A182_2 [0, 1, 2, 3, 4, 5, 6, 8, 9, 10, 11, 12, 13, 14, 16] ?_
 refine G_drawD [5, 6] mixed ?_
 refine d_pure' 3 rfl rfl rfl (L_move rfl) ?_
 refine d_pure' 4 rfl rfl rfl (L_move rfl) ?_
 refine d_pure' 6 rfl rfl rfl (L_move rfl) ?_
 refine d_pure' 7 rfl rfl rfl (L_move rfl) ?_
 refine d_pure' 8 rfl rfl rfl (by first | exact l_add rfl rfl rfl | exact L_bin rfl rfl rfl rfl) ?_
 refine d_load' 0 rfl rfl rfl rfl rfl (d_bp ty_29) ?_
 refine d_load' 1 rfl rfl rfl rfl rfl (d_bp ty_34) ?_
 refine d_load' 2 rfl rfl rfl rfl rfl (d_bp ty_29) ?_
 refine d_any 5 [] ⟨?_, trivial⟩
 refine d_call 5 rfl rfl rfl rfl rfl ca_60 (c_impl_RowsBetween (sw2 c s r).1 (fpAt (sw2 c s r).1.piv r.1) (fpAt (sw2 c s r).1.piv r.2) (by omega)) ?_
 rintro r S ⟨rfl, rfl⟩
 rw [show rowsB (sw2 c s r).1 (fpAt (sw2 c s r).1.piv r.1) (fpAt (sw2 c s r).1.piv r.2) = swR (sw2 c s r).1 r from rfl]
 refine d_any 9 [] ⟨?_, trivial⟩
 refine d_store' 9 rfl rfl rfl rfl rfl rfl (s_bp ty_29) ?_
 refine d_any 10 [] ⟨?_, trivial⟩
 refine d_store' 10 rfl rfl rfl rfl rfl rfl (s_bp ty_34) ?_
 refine d_pure' 11 rfl rfl rfl (L_assign rfl) ?_
 refine d_pure' 12 rfl rfl rfl (L_assign rfl) ?_
 refine D_done (by kernel_rfl) ?_
 refine G_ret ?_
 exact ⟨_, [13, 14, 15, 16], rfl, rfl, rfl, rfl⟩

end Go.Proofs.YthnadkagchbhbaaGreat.E
