/- Walks through functions, by program out of the session's annotations. -/
import Derived.Test.YthnadkagchbhbaaGreatA91
import Derived.Test.YthnadkagchbhbaaGreatA42
import Derived.Test.YthnadkagchbhbaaGreatF4
namespace Go.Proofs.YthnadkagchbhbaaGreat.E
open Go Go.RowKit Go.Proofs
set_option linter.unusedVariables false
set_option linter.unusedSimpArgs false

theorem e_tidy_A92_0 {P : Program} {N : Nat} {s : Slots} {R : List Res} {Q : Exit → Slots → List Res → Prop} {c : Code} (keep : List Nat) {base : Slots} {R' : List Res} (h : ECode P N c base R' Q) (hb : keepOf s keep = base := by simp only [E.keepOf, E.get, E.ev, E.cv, E.fill', E.fill, E.slotsOf, Res.sh, AC.sh, AC.sh.shs, AV.sh, E.splice, List.map_cons, List.map_nil, List.cons_append, List.nil_append, List.append_nil, List.length_cons, List.length_nil, List.take_zero, List.drop_zero, List.take_succ_cons, List.drop_succ_cons, List.drop_nil, List.take_nil, List.set_cons_zero, List.set_cons_succ, Nat.zero_add, Nat.add_zero, Nat.reduceAdd, Nat.reduceSub, reduceIte, Nat.reduceEqDiff, E.back, E.backR, E.ix, Res.un, AC.un, AC.un.uns, AV.un, E.un, Option.map_some, Option.map_none, Option.getD_some, List.getElem?_cons_zero, List.getElem?_cons_succ, List.getElem?_nil, crkR, crkO, quints_app, quints_lenApp]; rfl) (hR : R = R' := by (try simp only [E.keepOf, E.get, E.ev, E.cv, E.fill', E.fill, E.slotsOf, Res.sh, AC.sh, AC.sh.shs, AV.sh, E.splice, List.map_cons, List.map_nil, List.cons_append, List.nil_append, List.append_nil, List.length_cons, List.length_nil, List.take_zero, List.drop_zero, List.take_succ_cons, List.drop_succ_cons, List.drop_nil, List.take_nil, List.set_cons_zero, List.set_cons_succ, Nat.zero_add, Nat.add_zero, Nat.reduceAdd, Nat.reduceSub, reduceIte, Nat.reduceEqDiff, E.back, E.backR, E.ix, Res.un, AC.un, AC.un.uns, AV.un, E.un, Option.map_some, Option.map_none, Option.getD_some, List.getElem?_cons_zero, List.getElem?_cons_succ, List.getElem?_nil, crkR, crkO, quints_app, quints_lenApp]); rfl) : ECode P N c s R Q := E_tidy keep hb hR h
theorem g_forD_A92_1 {P : Program} {N n : Nat} {s : Slots} {R : List Res} {Q : Exit → Slots → List Res → Prop} {α : Type} {c : Code} (keep : List Nat) (mods : α → Slots) (Rf : α → List Res) (I : α → Prop) (m : α → Nat) (x0 : α) {base : Slots} (h0 : I x0) (hR : R = Rf x0) (h1 : chk s (mods x0))
  (round : ∀ x, I x → GCode P N n c (mods x ++ base) (Rf x) (EThen (fun s' R' => ∃ σ, okσ n R' σ = true ∧ ∃ y, m y < m x ∧ I y ∧ reR n σ R' = Rf y ∧ chk (renS n σ s') (mods y) ∧ chk (renS n σ s') base) Q)) (hb : keepOf s keep = base := by simp only [E.keepOf, E.get, E.ev, E.cv, E.fill', E.fill, E.slotsOf, Res.sh, AC.sh, AC.sh.shs, AV.sh, E.splice, List.map_cons, List.map_nil, List.cons_append, List.nil_append, List.append_nil, List.length_cons, List.length_nil, List.take_zero, List.drop_zero, List.take_succ_cons, List.drop_succ_cons, List.drop_nil, List.take_nil, List.set_cons_zero, List.set_cons_succ, Nat.zero_add, Nat.add_zero, Nat.reduceAdd, Nat.reduceSub, reduceIte, Nat.reduceEqDiff, E.back, E.backR, E.ix, Res.un, AC.un, AC.un.uns, AV.un, E.un, Option.map_some, Option.map_none, Option.getD_some, List.getElem?_cons_zero, List.getElem?_cons_succ, List.getElem?_nil, crkR, crkO, quints_app, quints_lenApp]; rfl) : GCode P N n (.loop c) s R Q := G_forD keep mods Rf I m x0 hb h0 hR h1 round
theorem g_tidy_A92_2 {P : Program} {N n : Nat} {s : Slots} {R : List Res} {Q : Exit → Slots → List Res → Prop} {c : Code} (keep : List Nat) {base : Slots} {R' : List Res} (h : GCode P N n c base R' Q) (hb : keepOf s keep = base := by simp only [E.keepOf, E.get, E.ev, E.cv, E.fill', E.fill, E.slotsOf, Res.sh, AC.sh, AC.sh.shs, AV.sh, E.splice, List.map_cons, List.map_nil, List.cons_append, List.nil_append, List.append_nil, List.length_cons, List.length_nil, List.take_zero, List.drop_zero, List.take_succ_cons, List.drop_succ_cons, List.drop_nil, List.take_nil, List.set_cons_zero, List.set_cons_succ, Nat.zero_add, Nat.add_zero, Nat.reduceAdd, Nat.reduceSub, reduceIte, Nat.reduceEqDiff, E.back, E.backR, E.ix, Res.un, AC.un, AC.un.uns, AV.un, E.un, Option.map_some, Option.map_none, Option.getD_some, List.getElem?_cons_zero, List.getElem?_cons_succ, List.getElem?_nil, crkR, crkO, quints_app, quints_lenApp]; rfl) (hR : R = R' := by (try simp only [E.keepOf, E.get, E.ev, E.cv, E.fill', E.fill, E.slotsOf, Res.sh, AC.sh, AC.sh.shs, AV.sh, E.splice, List.map_cons, List.map_nil, List.cons_append, List.nil_append, List.append_nil, List.length_cons, List.length_nil, List.take_zero, List.drop_zero, List.take_succ_cons, List.drop_succ_cons, List.drop_nil, List.take_nil, List.set_cons_zero, List.set_cons_succ, Nat.zero_add, Nat.add_zero, Nat.reduceAdd, Nat.reduceSub, reduceIte, Nat.reduceEqDiff, E.back, E.backR, E.ix, Res.un, AC.un, AC.un.uns, AV.un, E.un, Option.map_some, Option.map_none, Option.getD_some, List.getElem?_cons_zero, List.getElem?_cons_succ, List.getElem?_nil, crkR, crkO, quints_app, quints_lenApp]); rfl) : GCode P N n c s R Q := G_tidy keep hb hR h

set_option maxRecDepth 20000 in
set_option maxHeartbeats 2000000 in
theorem c_spec_l7Total (l : List Qn) (n : Nat) (h : okL l n) (hn : n ≤ 1000000) : EFn Tryz.prog 51 [.c (.ro (quints l))] [] (fun r S => r = .c (.sc (.int .i64 (totW l))) ∧ S = []) := by
 refine E_fn Tryz.func51 rfl (Nat.le_of_ble_eq_true rfl) ?_
 have hl := h.1
 refine E_seq ?_
 refine E_region' (L := [0]) rfl ?_
 refine xas ?_
 refine EOps_nil ?_
 refine E_seq ?_
 refine E_region' (L := [0]) rfl ?_
 refine xas ?_
 refine EOps_nil ?_
 refine E_seq ?_
 refine E_seq ?_
 refine E_region' (L := [0]) rfl ?_
 refine xas ?_
 refine EOps_nil ?_
 refine E_block ?_
 refine e_for (α := Nat) [0, 2] (fun k => [(4, .c (.sc (.int .i64 (k)))), (3, .c (.sc (.int .i64 ((totW (l.take k))))))]) (fun _ => _) (fun k => k ≤ l.length) (fun k => l.length - k) (0) ?_ (rfl) ⟨.inr rfl, .inr (int_eq (by simp [totW])), trivial⟩ ?_
 ·simp
 rintro k hk
 refine E_seq ?_
 refine E_seq ?_
 refine E_region' (L := [0, 1, 2, 3]) rfl ?_
 refine xmv ?_
 refine xmv ?_
 refine x_pure rfl rfl rfl (l_len rfl sl_79) ?_
 refine x_pure rfl rfl rfl (L_bin rfl rfl rfl rfl) ?_
 refine EOps_nil ?_
 refine E_cond rfl (fun hc8 => ?_) (fun hc8 => ?_)
 ·have hc8' : k < (l).length := by simpa [ints_len, bools_len, pairs_len, quads_len, quints_len] using hc8
  obtain ⟨x, hx⟩ : ∃ x, (l)[k]? = some x := ⟨_, List.getElem?_eq_getElem hc8'⟩
  have h1 := okL_tot (okL_take h k)
  have h2 := h.2 x (List.mem_of_getElem? hx)
  have h3 : (l.take k).length ≤ 1000000 := by rw [List.length_take]; omega
  refine E_skip ?_
  refine E_seq ?_
  refine E_block ?_
  refine E_region' (L := [0, 1, 2, 3, 4, 5, 6, 7]) rfl ?_
  refine xmv ?_
  refine xmv ?_
  refine xmv ?_
  refine x_pure rfl rfl rfl (L_index rfl rfl (by first | exact i_ro sl_79 ty_93 | exact i_sl sl_79 ty_93)) ?_
  refine x_pure rfl rfl rfl (l_field rfl fo_93_4) ?_
  refine x_light rfl rfl rfl (L_load rfl (by first | exact d_bp ty_3 | exact ld_rp ty_3 rfl | exact d_ep ty_3)) ?_
  refine x_pure rfl rfl rfl (by first | exact l_add rfl rfl rfl | exact L_bin rfl rfl rfl rfl) ?_
  refine xas ?_
  refine EOps_nil ?_
  refine E_region' (L := [0, 1, 2]) rfl ?_
  refine xmv ?_
  refine x_pure rfl rfl rfl (by first | exact l_add rfl rfl rfl | exact L_bin rfl rfl rfl rfl) ?_
  refine xas ?_
  refine EOps_nil ?_
  refine ⟨k + 1, ?_, ?_, rfl, ⟨.inr rfl, .inr (int_eq (totW_step hx).symm), trivial⟩, ⟨.inr rfl, .inr rfl, trivial⟩⟩
  ·first | omega | (dsimp only; omega) | (simp; omega)
  ·first | trivial | omega | (dsimp only; omega) | (simp; omega)
 ·have hk' : l.length ≤ k := by simpa [quints_len] using hc8
  rw [List.take_of_length_le hk']
  refine E_exit ?_
  refine E_seq ?_
  refine E_region' (L := [0, 1]) rfl ?_
  refine xmv ?_
  refine xas ?_
  refine EOps_nil ?_
  refine E_ret ?_
  exact ⟨_, [], rfl, rfl, rfl, rfl⟩

set_option maxRecDepth 20000 in
set_option maxHeartbeats 2000000 in
theorem c_spec_l7Crack (q : Int) (c : Crk) (v : Int) (l : List Qn) (hc : isCrk c = true) (hv : bnd v = true) (hl : l.length ≤ 1000000) : EFn Tryz.prog 63 [.agg (crkC c), .c (.sc (.int .i64 v)), .c (.sc (.int .i64 q)), .c (.bp 0 0)] [.box [.sl 1 0 l.length l.length], .row 93 5 (quints l)] (fun r S => r = .agg (crkO 2 (crackC c v).1) ∧ S = [.box [.sl 1 0 (l ++ chgs q c v).length (l ++ chgs q c v).length], .row 93 5 (quints (l ++ chgs q c v))] ++ crkR 3 76 (crackC c v).1) := by
 refine E_fn Tryz.func63 rfl (Nat.le_of_ble_eq_true rfl) ?_
 have hlc := crk_lens hc
 have hpc : pieceT c v = .tup [(false, [.sc (.int .i64 (pcFrom c.piv v))]), (false, [.sc (.int .i64 (pcTo c.piv c.vals.length v))])] := by rw [pieceT, if_pos ⟨hc, hv⟩, pcT]
 have hco := (crackC_ok hc hv).2
 refine E_seq ?_
 refine E_region' (L := [0, 1]) rfl ?_
 refine x_box rfl rfl rfl rfl rfl ?_
 refine x_alloc rfl rfl rfl rfl za_29 ?_
 refine EOps_nil ?_
 refine E_seq ?_
 refine e_tidy_A92_0 [0, 1, 2, 3, 4, 8] ?_
 refine E_region' (L := [0, 1, 2, 3, 4, 5, 6, 7]) rfl ?_
 refine x_light rfl rfl rfl (L_load rfl (by first | exact d_bp ty_29 | exact ld_rp ty_29 rfl | exact d_ep ty_29)) ?_
 refine xmv ?_
 refine x_call rfl rfl rfl rfl rfl ca_61 (c_spec_PieceOf c v (by omega)) ?_ (hq := by rintro r S ⟨rfl, rfl⟩; rw [hpc]; exact ⟨rfl, rfl⟩)
 rintro r S ⟨rfl, rfl⟩
 rw [hpc]
 refine xmv ?_
 refine x_pure rfl rfl rfl (L_extract rfl rfl) ?_
 refine x_pure rfl rfl rfl (L_extract rfl rfl) ?_
 refine xas ?_
 refine xas ?_
 refine EOps_nil ?_
 refine E_seq ?_
 refine e_tidy_A92_0 [0, 1, 2, 3, 4, 8, 9, 10] ?_
 refine E_region' (L := [0, 1, 2, 3, 4, 5, 6, 7]) rfl ?_
 refine x_light rfl rfl rfl (L_load rfl (by first | exact d_bp ty_29 | exact ld_rp ty_29 rfl | exact d_ep ty_29)) ?_
 refine xmv ?_
 refine x_call rfl rfl rfl rfl rfl ca_39 (c_spec_FindPivot c v (by omega)) ?_ (hq := by rintro r S ⟨rfl, rfl⟩; exact ⟨rfl, rfl⟩)
 rintro r S ⟨rfl, rfl⟩
 refine xmv ?_
 refine x_pure rfl rfl rfl (L_extract rfl rfl) ?_
 refine x_pure rfl rfl rfl (L_extract rfl rfl) ?_
 refine xas ?_
 refine xas ?_
 refine EOps_nil ?_
 refine E_seq ?_
 refine e_tidy_A92_0 [0, 1, 2, 3, 4, 8, 9, 10, 12] ?_
 refine E_region' (L := [0, 1, 2, 3, 4, 5, 6, 7, 8, 9, 10]) rfl ?_
 refine x_light rfl rfl rfl (L_load rfl (by first | exact d_bp ty_29 | exact ld_rp ty_29 rfl | exact d_ep ty_29)) ?_
 refine xmv ?_
 refine x_call rfl rfl rfl rfl rfl ca_78 (c_spec_CrackAt_ok c v hc hv) ?_
 rintro r S ⟨rfl, rfl⟩
 refine xmv ?_
 refine x_pure rfl rfl rfl (L_extract rfl rfl) ?_
 refine x_pure rfl rfl rfl (L_extract rfl rfl) ?_
 refine x_pure rfl rfl rfl (L_extract rfl rfl) ?_
 refine x_alloc rfl rfl rfl rfl za_29 ?_
 refine EOps_go rfl rfl (EOp_store rfl rfl rfl (by first | exact s_bp ty_29 | exact s_ep ty_29) ?_)
 refine xas ?_
 refine xas ?_
 refine EOps_nil ?_
 refine E_seq ?_
 refine E_seq ?_
 refine E_region' (L := [0, 1, 2, 3, 4]) rfl ?_
 refine xmv ?_
 refine xmv ?_
 refine EOps_split 36 (b := _) rfl (fun hg36 => ?_) (fun hg36 => ?_)
 ·refine xmv ?_
  refine x_pure rfl rfl rfl (L_not rfl rfl) ?_
  refine x_pure rfl rfl rfl (L_pick rfl rfl) ?_
  refine EOps_nil ?_
  refine E_cond rfl (fun hc39 => ?_) (fun hc39 => ?_)
  ·have hp : isPv c.piv v = false := by simpa using hc39
   have hch : chgs q c v = [(q, v, pcFrom c.piv v, pcTo c.piv c.vals.length v, ((crackC c v).2.length : Int))] := by rw [chgs, if_neg (by simp [hp])]
   refine E_region' (L := [0, 1, 2, 3, 4, 5, 6, 7, 8, 9, 10, 11, 12, 13, 14]) rfl ?_
   refine xmv ?_
   refine xmv ?_
   refine x_pure rfl rfl rfl (L_nilCheck rfl rfl rfl) ?_
   refine x_light rfl rfl rfl (L_load rfl (by first | exact d_bp ty_79 | exact ld_rp ty_79 rfl | exact d_ep ty_79)) ?_
   refine xmv ?_
   refine xmv ?_
   refine xmv ?_
   refine xmv ?_
   refine xmv ?_
   refine x_pure rfl rfl rfl (l_len rfl sl_99) ?_
   refine x_pure rfl rfl rfl (L_build rfl bd_93 rfl rfl) ?_
   refine EOps_go rfl rfl (Heavy.op (H_bslice_ro rfl rfl (by decide) sl_79 ty_93 za_93 ⟨rfl, by decide⟩ (by decide) rfl rfl rfl rfl ?_))
   refine EOps_go rfl rfl (EOp_append (news := quints [(q, v, pcFrom c.piv v, pcTo c.piv c.vals.length v, ((crackC c v).2.length : Int))]) rfl rfl (by decide) sl_79 ty_93 by_93 za_93 ⟨rfl, by decide⟩ rfl (by first | rfl | assumption) (by first | assumption | exact ints_len _ | exact pairs_len _ | exact quads_len _ | exact quints_len _ | exact bools_len _ | (simp [ints_len, bools_len, pairs_len, quads_len, quints_len, part_len, *]; done) | (simp [ints_len, bools_len, pairs_len, quads_len, quints_len]; omega) | rfl) (by first | (refine lend_whole rfl ?_; first | assumption | exact ints_len _ | exact pairs_len _ | exact quads_len _ | exact quints_len _ | exact bools_len _ | (simp [ints_len, bools_len, pairs_len, quads_len, quints_len, part_len, *]; done) | (simp [ints_len, bools_len, pairs_len, quads_len, quints_len]; omega) | rfl) | rfl | simp [E.lend, lendC]) (by first | exact ints_row _ | exact pairs_row _ | exact quads_row _ | exact quints_row _ | exact bools_row _ | (intro r hr; simp [chunk] at hr; subst hr; exact ⟨rfl, rfl⟩)) (by simp [ints_len, bools_len, pairs_len, quads_len, quints_len, chunk]; omega) ?_)
   refine x_pure rfl rfl rfl (L_nilCheck rfl rfl rfl) ?_
   refine EOps_go rfl rfl (EOp_store rfl rfl rfl (by first | exact s_bp ty_79 | exact s_ep ty_79) ?_)
   refine EOps_nil ?_
   refine E_seq ?_
   refine E_region' (L := [0, 1]) rfl ?_
   refine x_light rfl rfl rfl (L_load rfl (by first | exact d_bp ty_29 | exact ld_rp ty_29 rfl | exact d_ep ty_29)) ?_
   refine EOps_go rfl rfl (EOp_store rfl rfl rfl (by first | exact s_bp ty_29 | exact s_ep ty_29) ?_)
   refine EOps_nil ?_
   refine E_ret ?_
   rw [hch, ← quints_lenApp, ← quints_app]
   exact ⟨_, [4, 5, 6], rfl, rfl, rfl, rfl⟩
  ·have hp : isPv c.piv v = true := by simpa using hc39
   have hch : chgs q c v = [] := by rw [chgs, if_pos hp]
   refine E_skip ?_
   refine E_seq ?_
   refine E_region' (L := [0, 1]) rfl ?_
   refine x_light rfl rfl rfl (L_load rfl (by first | exact d_bp ty_29 | exact ld_rp ty_29 rfl | exact d_ep ty_29)) ?_
   refine EOps_go rfl rfl (EOp_store rfl rfl rfl (by first | exact s_bp ty_29 | exact s_ep ty_29) ?_)
   refine EOps_nil ?_
   refine E_ret ?_
   rw [hch, List.append_nil]
   exact ⟨_, [4, 5, 6], rfl, rfl, rfl, rfl⟩
 ·exact Bool.noConfusion hg36

set_option maxRecDepth 20000 in
set_option maxHeartbeats 8000000 in
theorem c_spec_l7With (q : Int) (c : Crk) (s : Sett) (v : Int) (l : List Qn) (N0 : Nat) (hc : isCrk c = true) (hs : isSet s = true) (hv : bnd v = true) (hl : okL l N0) (h0 : N0 ≤ 500000) : EFn Tryz.prog 50 [.agg (crkO 2 c), .agg (setC s), .c (.sc (.int .i64 v)), .c (.sc (.int .i64 q)), .c (.bp 0 0)] [.box [.sl 1 0 l.length l.length], .row 93 5 (quints l), .row 3 1 (ints c.vals), .row 3 1 (ints c.rows), .row 76 2 (pairs c.piv)] (fun r S => r = .tup [(true, crkO 5 (withW q c s v l).1), (true, setC (withW q c s v l).2.1)] ∧ S = [.box [.sl 1 0 (withW q c s v l).2.2.length (withW q c s v l).2.2.length], .row 93 5 (quints (withW q c s v l).2.2), .gone, .gone, .gone, .row 3 1 (ints (withW q c s v l).1.vals), .row 3 1 (ints (withW q c s v l).1.rows), .row 76 2 (pairs (withW q c s v l).1.piv)]) := by
  refine E_fn Tryz.func50 rfl (Nat.le_of_ble_eq_true rfl) ?_
  refine E_G (n := 5) rfl ?_
  refine G_seq ?_
  refine G_region' (L := [0, 1, 2, 3]) rfl ?_
  refine x_box rfl rfl rfl rfl rfl ?_
  refine x_box rfl rfl rfl rfl rfl ?_
  refine x_alloc rfl rfl rfl rfl za_29 ?_
  refine x_alloc rfl rfl rfl rfl za_34 ?_
  refine EOps_nil ?_
  refine G_seq ?_
  refine G_region' (L := [0, 1, 2]) rfl ?_
  refine x_light rfl rfl rfl (L_load rfl (by first | exact d_bp ty_29 | exact ld_rp ty_29 rfl | exact d_ep ty_29)) ?_
  refine x_alloc rfl rfl rfl rfl za_29 ?_
  refine EOps_go rfl rfl (EOp_store rfl rfl rfl (by first | exact s_bp ty_29 | exact s_ep ty_29) ?_)
  refine EOps_nil ?_
  refine G_seq ?_
  refine G_block ?_
  refine G_moveN' 10 9 0 rfl rfl rfl rfl (ints_len _) (Nat.le_refl _) (ints_all _ rfl) (ints_allSc _) ?_
  refine G_moveN' 11 9 1 rfl rfl rfl rfl (ints_len _) (Nat.le_refl _) (ints_all _ rfl) (ints_allSc _) ?_
  refine G_moveN' 12 9 2 rfl rfl rfl rfl (pairs_len _) (Nat.le_refl _) (pairs_all _ rfl) (pairs_isSc _) ?_
  refine g_forD_A92_1 (α := Nat × Crk × Sett × List Qn) [0, 1, 2, 3, 4, 5, 6, 10, 11, 12] (fun (f, cur, st, l1) => []) (fun (f, cur, st, l1) => [.box [.sl 1 0 l1.length l1.length], .row 93 5 (quints l1), .gone, .gone, .gone, .box (crkO 2 c), .box (setC st), .box [.sc (.slice none 0 0), .sc (.slice none 0 0), .sc (.slice none 0 0)], .box [.sc (.int .i64 0), .sc (.int .i64 0), .sc (.int .i64 0)], .box (crkO 10 cur), .row 3 1 (ints cur.vals), .row 3 1 (ints cur.rows), .row 76 2 (pairs cur.piv)]) (fun (f, cur, st, l1) => isCrk cur = true ∧ isSet st = true ∧ goW q v f cur st l1 = goW q v 4000 c s l ∧ 2001 < f + cur.piv.length ∧ f ≤ 4000 ∧ okL l1 (N0 + 2 * (4000 - f))) (fun (f, cur, st, l1) => f) ((4000, c, s, l)) ?_ (rfl) trivial ?_
  · exact ⟨hc, hs, rfl, by first | omega | (dsimp only; omega), by first | omega | (dsimp only; omega), okL_mono hl (by first | omega | (dsimp only; omega))⟩
  rintro ⟨f, cur, st, l1⟩ ⟨hcur, hset, hgo, hfu, hf4, hok⟩
  dsimp only at *
  have hlc := crk_lens hcur
  obtain ⟨f', rfl⟩ : ∃ f', f = f' + 1 := ⟨f - 1, by omega⟩
  have hpb := pc_bounds hcur v
  obtain ⟨a, ha⟩ : ∃ a : Nat, pcFrom cur.piv v = a := ⟨_, (Int.toNat_of_nonneg hpb.1).symm⟩
  obtain ⟨b, hbb⟩ : ∃ b : Nat, pcTo cur.piv cur.vals.length v = b := ⟨_, (Int.toNat_of_nonneg (by omega)).symm⟩
  have hpc : pieceT cur v = .tup [(false, [.sc (.int .i64 (a : Int))]), (false, [.sc (.int .i64 (b : Int))])] := by rw [pieceT, if_pos ⟨hcur, hv⟩, pcT, ha, hbb]
  have hgs : goW q v (f' + 1) cur st l1 = if stopW cur st v = true then (cur, st, l1) else goW q v f' (stepW cur st v) (setN st) (l1 ++ chgs q cur (chW cur st v) ++ chgs q (crackC cur (chW cur st v)).1 (chW cur st v + 1)) := rfl
  have hsp := set_parts hset
  have hl1 := hok.1
  refine G_seq ?_
  refine G_seq ?_
  refine G_region' (L := [0, 1, 2]) rfl ?_
  refine x_pure rfl rfl rfl (l_field rfl fo_34_0) ?_
  refine x_light rfl rfl rfl (L_load rfl (by first | exact d_bp ty_3 | exact ld_rp ty_3 rfl | exact d_ep ty_3)) ?_
  refine x_pure rfl rfl rfl (L_bin rfl rfl rfl rfl) ?_
  refine EOps_nil ?_
  refine G_cond rfl (fun hc21 => ?_) (fun hc21 => ?_)
  · refine G_skip ?_
    refine G_block ?_
    refine G_seq ?_
    refine g_tidy_A92_2 [0, 1, 2, 3, 4, 5, 6, 10, 11, 12, 13, 14, 16, 17, 21, 42] ?_
    refine G_region' (L := [0, 1, 2, 3, 4, 5, 6, 7]) rfl ?_
    refine x_light rfl rfl rfl (L_load rfl (by first | exact d_bp ty_29 | exact ld_rp ty_29 rfl | exact d_ep ty_29)) ?_
    refine xmv ?_
    refine x_call rfl rfl rfl rfl rfl ca_61 (c_spec_PieceOf cur v (by omega)) ?_ (hq := by rintro r S ⟨rfl, rfl⟩; rw [hpc]; exact ⟨rfl, rfl⟩)
    rintro r S ⟨rfl, rfl⟩
    rw [hpc]
    refine xmv ?_
    refine x_pure rfl rfl rfl (L_extract rfl rfl) ?_
    refine x_pure rfl rfl rfl (L_extract rfl rfl) ?_
    refine xas ?_
    refine xas ?_
    refine EOps_nil ?_
    refine G_seq ?_
    refine g_tidy_A92_2 [0, 1, 2, 3, 4, 5, 6, 10, 11, 12, 13, 14, 16, 17, 21, 42] ?_
    refine G_region' (L := [0, 1, 2, 3, 4, 5, 6, 7]) rfl ?_
    refine x_light rfl rfl rfl (L_load rfl (by first | exact d_bp ty_29 | exact ld_rp ty_29 rfl | exact d_ep ty_29)) ?_
    refine xmv ?_
    refine x_call rfl rfl rfl rfl rfl ca_39 (c_spec_FindPivot cur v (by omega)) ?_ (hq := by rintro r S ⟨rfl, rfl⟩; exact ⟨rfl, rfl⟩)
    rintro r S ⟨rfl, rfl⟩
    refine xmv ?_
    refine x_pure rfl rfl rfl (L_extract rfl rfl) ?_
    refine x_pure rfl rfl rfl (L_extract rfl rfl) ?_
    refine xas ?_
    refine xas ?_
    refine EOps_nil ?_
    refine G_seq ?_
    refine G_seq ?_
    refine G_region' (L := [0, 1, 2, 3, 4, 5, 6, 7, 8]) rfl ?_
    refine xmv ?_
    refine xmv ?_
    refine EOps_split 35 (b := _) rfl (fun hg35 => ?_) (fun hg35 => ?_)
    · refine x_skip rfl rfl rfl ?_
      refine x_skip rfl rfl rfl ?_
      refine x_skip rfl rfl rfl ?_
      refine x_skip rfl rfl rfl ?_
      refine x_skip rfl rfl rfl ?_
      refine x_skip rfl rfl rfl ?_
      refine x_pure rfl rfl rfl (L_pick rfl rfl) ?_
      refine EOps_nil ?_
      refine G_cond rfl (fun hc42 => ?_) (fun hc42 => ?_)
      · have hst : stopW cur st v = true := by
          rw [stopW, ha, hbb]
          first
            | (have h1 : isPv cur.piv v = true := by simpa using hg35
               simp [h1]; done)
            | (have h1 : (b : Int) - a ≤ st.thr := by simpa using hc42
               simp [h1])
        rw [if_pos hst] at hgs
        have hres : goW q v 4000 c s l = (cur, st, l1) := hgo.symm.trans hgs
        have hW : withW q c s v l = ((crackC cur v).1, st, l1 ++ chgs q cur v) := by rw [withW, hres]
        refine G_exit ?_
        refine G_seq ?_
        refine g_tidy_A92_2 [0, 1, 2, 3, 4, 5, 6, 10, 11, 12, 13, 14, 16, 17, 21, 42] ?_
        refine G_drawU mixed ?_
        refine u_pure 1 rfl rfl rfl (L_move rfl) ?_
        refine u_pure 2 rfl rfl rfl (L_move rfl) ?_
        refine u_pure 3 rfl rfl rfl (L_move rfl) ?_
        refine u_any 0 [5] ⟨?_, ?_, trivial⟩
        · refine u_op 0 rfl rfl (EOp_light rfl (by decide) (L_load rfl (by first | exact d_bp ty_29 | exact ld_rp ty_29 rfl | exact d_ep ty_29)) ?_)
          refine u_any 4 [5] ⟨?_, ?_, trivial⟩
          · refine u_frame 4 [0, 1] rfl rfl rfl rfl rfl ca_63 rfl (c_spec_l7Crack q cur v l1 hcur hv (by omega)) ?_
            rintro r S ⟨r0, S0, ⟨rfl, rfl⟩, rfl, rfl⟩
            refine u_any 5 [6] ⟨?_, ?_, trivial⟩
            · refine u_op 5 rfl rfl (EOp_light rfl (by decide) (L_load rfl (by first | exact d_bp ty_34 | exact ld_rp ty_34 rfl | exact d_ep ty_34)) ?_)
              refine u_any 6 [] ⟨?_, trivial⟩
              refine u_op 6 rfl rfl (EOp_store rfl rfl rfl (by first | exact s_bp ty_29 | exact s_ep ty_29) ?_)
              refine u_any 7 [] ⟨?_, trivial⟩
              refine u_op 7 rfl rfl (EOp_store rfl rfl rfl (by first | exact s_bp ty_34 | exact s_ep ty_34) ?_)
              refine u_done ?_
              refine G_ret ?_
              rw [hW]
              first
                | exact ⟨_, [13, 14, 15], rfl, rfl, rfl, rfl⟩
            · refine u_op 6 rfl rfl (EOp_store rfl rfl rfl (by first | exact s_bp ty_29 | exact s_ep ty_29) ?_)
              refine u_any 5 [] ⟨?_, trivial⟩
              refine u_op 5 rfl rfl (EOp_light rfl (by decide) (L_load rfl (by first | exact d_bp ty_34 | exact ld_rp ty_34 rfl | exact d_ep ty_34)) ?_)
              refine u_any 7 [] ⟨?_, trivial⟩
              refine u_op 7 rfl rfl (EOp_store rfl rfl rfl (by first | exact s_bp ty_34 | exact s_ep ty_34) ?_)
              refine u_done ?_
              refine G_ret ?_
              rw [hW]
              first
                | exact ⟨_, [13, 14, 15], rfl, rfl, rfl, rfl⟩
          · refine u_op 5 rfl rfl (EOp_light rfl (by decide) (L_load rfl (by first | exact d_bp ty_34 | exact ld_rp ty_34 rfl | exact d_ep ty_34)) ?_)
            refine u_any 4 [] ⟨?_, trivial⟩
            refine u_frame 4 [0, 1] rfl rfl rfl rfl rfl ca_63 rfl (c_spec_l7Crack q cur v l1 hcur hv (by omega)) ?_
            rintro r S ⟨r0, S0, ⟨rfl, rfl⟩, rfl, rfl⟩
            refine u_any 6 [] ⟨?_, trivial⟩
            refine u_op 6 rfl rfl (EOp_store rfl rfl rfl (by first | exact s_bp ty_29 | exact s_ep ty_29) ?_)
            refine u_any 7 [] ⟨?_, trivial⟩
            refine u_op 7 rfl rfl (EOp_store rfl rfl rfl (by first | exact s_bp ty_34 | exact s_ep ty_34) ?_)
            refine u_done ?_
            refine G_ret ?_
            rw [hW]
            first
              | exact ⟨_, [13, 14, 15], rfl, rfl, rfl, rfl⟩
        · refine u_op 5 rfl rfl (EOp_light rfl (by decide) (L_load rfl (by first | exact d_bp ty_34 | exact ld_rp ty_34 rfl | exact d_ep ty_34)) ?_)
          refine u_any 0 [] ⟨?_, trivial⟩
          refine u_op 0 rfl rfl (EOp_light rfl (by decide) (L_load rfl (by first | exact d_bp ty_29 | exact ld_rp ty_29 rfl | exact d_ep ty_29)) ?_)
          refine u_any 4 [] ⟨?_, trivial⟩
          refine u_frame 4 [0, 1] rfl rfl rfl rfl rfl ca_63 rfl (c_spec_l7Crack q cur v l1 hcur hv (by omega)) ?_
          rintro r S ⟨r0, S0, ⟨rfl, rfl⟩, rfl, rfl⟩
          refine u_any 6 [] ⟨?_, trivial⟩
          refine u_op 6 rfl rfl (EOp_store rfl rfl rfl (by first | exact s_bp ty_29 | exact s_ep ty_29) ?_)
          refine u_any 7 [] ⟨?_, trivial⟩
          refine u_op 7 rfl rfl (EOp_store rfl rfl rfl (by first | exact s_bp ty_34 | exact s_ep ty_34) ?_)
          refine u_done ?_
          refine G_ret ?_
          rw [hW]
          first
            | exact ⟨_, [13, 14, 15], rfl, rfl, rfl, rfl⟩
      · exact Bool.noConfusion (hc42 : true = false)
    · refine xmv ?_
      refine xmv ?_
      refine x_pure rfl rfl rfl (by first | exact l_sub rfl rfl rfl | exact L_bin rfl rfl rfl rfl) ?_
      refine x_pure rfl rfl rfl (l_field rfl fo_34_1) ?_
      refine x_light rfl rfl rfl (L_load rfl (by first | exact d_bp ty_3 | exact ld_rp ty_3 rfl | exact d_ep ty_3)) ?_
      refine x_pure rfl rfl rfl (L_bin rfl rfl rfl rfl) ?_
      refine x_pure rfl rfl rfl (L_pick rfl rfl) ?_
      refine EOps_nil ?_
      refine G_cond rfl (fun hc42 => ?_) (fun hc42 => ?_)
      · have hst : stopW cur st v = true := by
          rw [stopW, ha, hbb]
          first
            | (have h1 : isPv cur.piv v = true := by simpa using hg35
               simp [h1]; done)
            | (have h1 : (b : Int) - a ≤ st.thr := by simpa using hc42
               simp [h1])
        rw [if_pos hst] at hgs
        have hres : goW q v 4000 c s l = (cur, st, l1) := hgo.symm.trans hgs
        have hW : withW q c s v l = ((crackC cur v).1, st, l1 ++ chgs q cur v) := by rw [withW, hres]
        refine G_exit ?_
        refine G_seq ?_
        refine g_tidy_A92_2 [0, 1, 2, 3, 4, 5, 6, 10, 11, 12, 13, 14, 16, 17, 21, 42] ?_
        refine G_drawU mixed ?_
        refine u_pure 1 rfl rfl rfl (L_move rfl) ?_
        refine u_pure 2 rfl rfl rfl (L_move rfl) ?_
        refine u_pure 3 rfl rfl rfl (L_move rfl) ?_
        refine u_any 0 [5] ⟨?_, ?_, trivial⟩
        · refine u_op 0 rfl rfl (EOp_light rfl (by decide) (L_load rfl (by first | exact d_bp ty_29 | exact ld_rp ty_29 rfl | exact d_ep ty_29)) ?_)
          refine u_any 4 [5] ⟨?_, ?_, trivial⟩
          · refine u_frame 4 [0, 1] rfl rfl rfl rfl rfl ca_63 rfl (c_spec_l7Crack q cur v l1 hcur hv (by omega)) ?_
            rintro r S ⟨r0, S0, ⟨rfl, rfl⟩, rfl, rfl⟩
            refine u_any 5 [6] ⟨?_, ?_, trivial⟩
            · refine u_op 5 rfl rfl (EOp_light rfl (by decide) (L_load rfl (by first | exact d_bp ty_34 | exact ld_rp ty_34 rfl | exact d_ep ty_34)) ?_)
              refine u_any 6 [] ⟨?_, trivial⟩
              refine u_op 6 rfl rfl (EOp_store rfl rfl rfl (by first | exact s_bp ty_29 | exact s_ep ty_29) ?_)
              refine u_any 7 [] ⟨?_, trivial⟩
              refine u_op 7 rfl rfl (EOp_store rfl rfl rfl (by first | exact s_bp ty_34 | exact s_ep ty_34) ?_)
              refine u_done ?_
              refine G_ret ?_
              rw [hW]
              first
                | exact ⟨_, [13, 14, 15], rfl, rfl, rfl, rfl⟩
            · refine u_op 6 rfl rfl (EOp_store rfl rfl rfl (by first | exact s_bp ty_29 | exact s_ep ty_29) ?_)
              refine u_any 5 [] ⟨?_, trivial⟩
              refine u_op 5 rfl rfl (EOp_light rfl (by decide) (L_load rfl (by first | exact d_bp ty_34 | exact ld_rp ty_34 rfl | exact d_ep ty_34)) ?_)
              refine u_any 7 [] ⟨?_, trivial⟩
              refine u_op 7 rfl rfl (EOp_store rfl rfl rfl (by first | exact s_bp ty_34 | exact s_ep ty_34) ?_)
              refine u_done ?_
              refine G_ret ?_
              rw [hW]
              first
                | exact ⟨_, [13, 14, 15], rfl, rfl, rfl, rfl⟩
          · refine u_op 5 rfl rfl (EOp_light rfl (by decide) (L_load rfl (by first | exact d_bp ty_34 | exact ld_rp ty_34 rfl | exact d_ep ty_34)) ?_)
            refine u_any 4 [] ⟨?_, trivial⟩
            refine u_frame 4 [0, 1] rfl rfl rfl rfl rfl ca_63 rfl (c_spec_l7Crack q cur v l1 hcur hv (by omega)) ?_
            rintro r S ⟨r0, S0, ⟨rfl, rfl⟩, rfl, rfl⟩
            refine u_any 6 [] ⟨?_, trivial⟩
            refine u_op 6 rfl rfl (EOp_store rfl rfl rfl (by first | exact s_bp ty_29 | exact s_ep ty_29) ?_)
            refine u_any 7 [] ⟨?_, trivial⟩
            refine u_op 7 rfl rfl (EOp_store rfl rfl rfl (by first | exact s_bp ty_34 | exact s_ep ty_34) ?_)
            refine u_done ?_
            refine G_ret ?_
            rw [hW]
            first
              | exact ⟨_, [13, 14, 15], rfl, rfl, rfl, rfl⟩
        · refine u_op 5 rfl rfl (EOp_light rfl (by decide) (L_load rfl (by first | exact d_bp ty_34 | exact ld_rp ty_34 rfl | exact d_ep ty_34)) ?_)
          refine u_any 0 [] ⟨?_, trivial⟩
          refine u_op 0 rfl rfl (EOp_light rfl (by decide) (L_load rfl (by first | exact d_bp ty_29 | exact ld_rp ty_29 rfl | exact d_ep ty_29)) ?_)
          refine u_any 4 [] ⟨?_, trivial⟩
          refine u_frame 4 [0, 1] rfl rfl rfl rfl rfl ca_63 rfl (c_spec_l7Crack q cur v l1 hcur hv (by omega)) ?_
          rintro r S ⟨r0, S0, ⟨rfl, rfl⟩, rfl, rfl⟩
          refine u_any 6 [] ⟨?_, trivial⟩
          refine u_op 6 rfl rfl (EOp_store rfl rfl rfl (by first | exact s_bp ty_29 | exact s_ep ty_29) ?_)
          refine u_any 7 [] ⟨?_, trivial⟩
          refine u_op 7 rfl rfl (EOp_store rfl rfl rfl (by first | exact s_bp ty_34 | exact s_ep ty_34) ?_)
          refine u_done ?_
          refine G_ret ?_
          rw [hW]
          first
            | exact ⟨_, [13, 14, 15], rfl, rfl, rfl, rfl⟩
      · have hst : stopW cur st v = false := by
          have h1 : isPv cur.piv v = false := by simpa using hg35
          have h2 : ¬ st.pol = 0 := by simpa using hc21
          have h3 : ¬ (b : Int) - a ≤ st.thr := by simpa using hc42
          rw [stopW, ha, hbb]
          simp [h1, h2, h3]
        obtain ⟨hab, bm, bm1, k1, k2, k3⟩ := stepW_ok hcur hset hst
        rw [if_neg (by simp [hst])] at hgs
        have hchw : chW cur st v = chP cur st a b := by rw [chW, ha, hbb]
        have hsw : stepW cur st v = (crackC (crackC cur (chP cur st a b)).1 (chP cur st a b + 1)).1 := by rw [stepW, hchw]
        rw [hsw, hchw] at hgs
        rw [hsw] at k2 k3
        rw [hchw] at bm bm1 k1
        rw [ha, hbb] at hab
        refine G_skip ?_
        refine G_seq ?_
        refine G_region' (L := [0]) rfl ?_
        refine xas ?_
        refine EOps_nil ?_
        refine G_seq ?_
        refine g_tidy_A92_2 [0, 1, 2, 3, 4, 5, 6, 10, 11, 12, 13, 14, 16, 17, 21, 42] ?_
        refine G_region' (L := [0, 1, 2, 3, 4, 5, 6, 7, 8, 9]) rfl ?_
        refine x_light rfl rfl rfl (L_load rfl (by first | exact d_bp ty_29 | exact ld_rp ty_29 rfl | exact d_ep ty_29)) ?_
        refine x_light rfl rfl rfl (L_load rfl (by first | exact d_bp ty_34 | exact ld_rp ty_34 rfl | exact d_ep ty_34)) ?_
        refine xmv ?_
        refine xmv ?_
        refine x_call rfl rfl rfl rfl rfl ca_62 (c_spec_ChoosePivot cur st a b hcur hset (by omega)) ?_
        rintro r S ⟨rfl, rfl⟩
        generalize chP cur st a b = md at *
        have hmb : -1000 ≤ md ∧ md ≤ 1000 := by simpa [bnd, isIn] using bm
        have o1 := chgs_ok (q := q) hcur bm
        have o2 := chgs_ok (q := q) k1 bm1
        have hol := okL_app (okL_app hok o1) o2
        have hol1 := (okL_app hok o1).1
        refine xmv ?_
        refine x_pure rfl rfl rfl (L_extract rfl rfl) ?_
        refine x_pure rfl rfl rfl (L_extract rfl rfl) ?_
        refine xas ?_
        refine EOps_go rfl rfl (EOp_store rfl rfl rfl (by first | exact s_bp ty_34 | exact s_ep ty_34) ?_)
        refine EOps_nil ?_
        refine G_seq ?_
        refine g_tidy_A92_2 [0, 1, 2, 3, 4, 5, 6, 10, 11, 12, 13, 14, 16, 17, 21, 42] ?_
        refine G_region' (L := [0, 1, 2, 3, 4, 5]) rfl ?_
        refine x_light rfl rfl rfl (L_load rfl (by first | exact d_bp ty_29 | exact ld_rp ty_29 rfl | exact d_ep ty_29)) ?_
        refine xmv ?_
        refine xmv ?_
        refine xmv ?_
        refine x_frame [0, 1] rfl rfl rfl rfl rfl ca_63 rfl (c_spec_l7Crack q cur md l1 hcur bm (by omega)) ?_
        rintro r S ⟨r0, S0, ⟨rfl, rfl⟩, rfl, rfl⟩
        generalize chgs q cur md = L1 at *
        generalize crackC cur md = P at *
        obtain ⟨c1, s1⟩ := P
        dsimp only at *
        refine EOps_go rfl rfl (EOp_store rfl rfl rfl (by first | exact s_bp ty_29 | exact s_ep ty_29) ?_)
        refine EOps_nil ?_
        refine g_tidy_A92_2 [0, 1, 2, 3, 4, 5, 6, 10, 11, 12, 13, 14, 16, 17, 21, 42] ?_
        refine G_region' (L := [0, 1, 2, 3, 4, 5, 6]) rfl ?_
        refine x_light rfl rfl rfl (L_load rfl (by first | exact d_bp ty_29 | exact ld_rp ty_29 rfl | exact d_ep ty_29)) ?_
        refine xmv ?_
        refine x_pure rfl rfl rfl (by first | exact l_add rfl rfl rfl | exact L_bin rfl rfl rfl rfl) ?_
        refine xmv ?_
        refine xmv ?_
        refine x_frame [0, 1] rfl rfl rfl rfl rfl ca_63 rfl (c_spec_l7Crack q c1 (md + 1) (l1 ++ L1) k1 bm1 (by omega)) ?_
        rintro r S ⟨r0, S0, ⟨rfl, rfl⟩, rfl, rfl⟩
        generalize chgs q c1 (md + 1) = L2 at *
        generalize crackC c1 (md + 1) = P at *
        obtain ⟨c2, s2⟩ := P
        dsimp only at *
        refine EOps_go rfl rfl (EOp_store rfl rfl rfl (by first | exact s_bp ty_29 | exact s_ep ty_29) ?_)
        refine EOps_nil ?_
        refine ⟨[5, 6, 7, 8, 9, 16, 17, 18], rfl, (f', c2, setN st, l1 ++ L1 ++ L2), ?_, ?_, rfl, trivial, ⟨.inr rfl, .inr rfl, .inr rfl, .inr rfl, .inr rfl, .inr rfl, .inr rfl, .inr rfl, .inr rfl, .inr rfl, trivial⟩⟩
        · first | omega | (dsimp only; omega) | (simp; omega)
        · exact ⟨k2, setN_ok hset, hgs.symm.trans hgo, by dsimp only; omega, by dsimp only; omega, okL_mono hol (by dsimp only; omega)⟩
  · have hst : stopW cur st v = true := by
      have h1 : st.pol = 0 := by simpa using hc21
      simp [stopW, h1]
    rw [if_pos hst] at hgs
    have hres : goW q v 4000 c s l = (cur, st, l1) := hgo.symm.trans hgs
    have hW : withW q c s v l = ((crackC cur v).1, st, l1 ++ chgs q cur v) := by rw [withW, hres]
    refine G_exit ?_
    refine G_seq ?_
    refine g_tidy_A92_2 [0, 1, 2, 3, 4, 5, 6, 10, 11, 12, 13, 14, 16, 17, 21, 42] ?_
    refine G_drawU mixed ?_
    refine u_pure 1 rfl rfl rfl (L_move rfl) ?_
    refine u_pure 2 rfl rfl rfl (L_move rfl) ?_
    refine u_pure 3 rfl rfl rfl (L_move rfl) ?_
    refine u_any 0 [5] ⟨?_, ?_, trivial⟩
    · refine u_op 0 rfl rfl (EOp_light rfl (by decide) (L_load rfl (by first | exact d_bp ty_29 | exact ld_rp ty_29 rfl | exact d_ep ty_29)) ?_)
      refine u_any 4 [5] ⟨?_, ?_, trivial⟩
      · refine u_frame 4 [0, 1] rfl rfl rfl rfl rfl ca_63 rfl (c_spec_l7Crack q cur v l1 hcur hv (by omega)) ?_
        rintro r S ⟨r0, S0, ⟨rfl, rfl⟩, rfl, rfl⟩
        refine u_any 5 [6] ⟨?_, ?_, trivial⟩
        · refine u_op 5 rfl rfl (EOp_light rfl (by decide) (L_load rfl (by first | exact d_bp ty_34 | exact ld_rp ty_34 rfl | exact d_ep ty_34)) ?_)
          refine u_any 6 [] ⟨?_, trivial⟩
          refine u_op 6 rfl rfl (EOp_store rfl rfl rfl (by first | exact s_bp ty_29 | exact s_ep ty_29) ?_)
          refine u_any 7 [] ⟨?_, trivial⟩
          refine u_op 7 rfl rfl (EOp_store rfl rfl rfl (by first | exact s_bp ty_34 | exact s_ep ty_34) ?_)
          refine u_done ?_
          refine G_ret ?_
          rw [hW]
          first
            | exact ⟨_, [13, 14, 15], rfl, rfl, rfl, rfl⟩
        · refine u_op 6 rfl rfl (EOp_store rfl rfl rfl (by first | exact s_bp ty_29 | exact s_ep ty_29) ?_)
          refine u_any 5 [] ⟨?_, trivial⟩
          refine u_op 5 rfl rfl (EOp_light rfl (by decide) (L_load rfl (by first | exact d_bp ty_34 | exact ld_rp ty_34 rfl | exact d_ep ty_34)) ?_)
          refine u_any 7 [] ⟨?_, trivial⟩
          refine u_op 7 rfl rfl (EOp_store rfl rfl rfl (by first | exact s_bp ty_34 | exact s_ep ty_34) ?_)
          refine u_done ?_
          refine G_ret ?_
          rw [hW]
          first
            | exact ⟨_, [13, 14, 15], rfl, rfl, rfl, rfl⟩
      · refine u_op 5 rfl rfl (EOp_light rfl (by decide) (L_load rfl (by first | exact d_bp ty_34 | exact ld_rp ty_34 rfl | exact d_ep ty_34)) ?_)
        refine u_any 4 [] ⟨?_, trivial⟩
        refine u_frame 4 [0, 1] rfl rfl rfl rfl rfl ca_63 rfl (c_spec_l7Crack q cur v l1 hcur hv (by omega)) ?_
        rintro r S ⟨r0, S0, ⟨rfl, rfl⟩, rfl, rfl⟩
        refine u_any 6 [] ⟨?_, trivial⟩
        refine u_op 6 rfl rfl (EOp_store rfl rfl rfl (by first | exact s_bp ty_29 | exact s_ep ty_29) ?_)
        refine u_any 7 [] ⟨?_, trivial⟩
        refine u_op 7 rfl rfl (EOp_store rfl rfl rfl (by first | exact s_bp ty_34 | exact s_ep ty_34) ?_)
        refine u_done ?_
        refine G_ret ?_
        rw [hW]
        first
          | exact ⟨_, [13, 14, 15], rfl, rfl, rfl, rfl⟩
    · refine u_op 5 rfl rfl (EOp_light rfl (by decide) (L_load rfl (by first | exact d_bp ty_34 | exact ld_rp ty_34 rfl | exact d_ep ty_34)) ?_)
      refine u_any 0 [] ⟨?_, trivial⟩
      refine u_op 0 rfl rfl (EOp_light rfl (by decide) (L_load rfl (by first | exact d_bp ty_29 | exact ld_rp ty_29 rfl | exact d_ep ty_29)) ?_)
      refine u_any 4 [] ⟨?_, trivial⟩
      refine u_frame 4 [0, 1] rfl rfl rfl rfl rfl ca_63 rfl (c_spec_l7Crack q cur v l1 hcur hv (by omega)) ?_
      rintro r S ⟨r0, S0, ⟨rfl, rfl⟩, rfl, rfl⟩
      refine u_any 6 [] ⟨?_, trivial⟩
      refine u_op 6 rfl rfl (EOp_store rfl rfl rfl (by first | exact s_bp ty_29 | exact s_ep ty_29) ?_)
      refine u_any 7 [] ⟨?_, trivial⟩
      refine u_op 7 rfl rfl (EOp_store rfl rfl rfl (by first | exact s_bp ty_34 | exact s_ep ty_34) ?_)
      refine u_done ?_
      refine G_ret ?_
      rw [hW]
      first
        | exact ⟨_, [13, 14, 15], rfl, rfl, rfl, rfl⟩

end Go.Proofs.YthnadkagchbhbaaGreat.E
