/- Walks through functions, by program out of the session's annotations. -/
import Derived.Test.YthnadkagchbhbaaGreatA34
namespace Go.Proofs.YthnadkagchbhbaaGreat.E
open Go Go.RowKit Go.Proofs
set_option linter.unusedVariables false
set_option linter.unusedSimpArgs false

theorem geAt_step {n v : Int} {l : List (Int × Int)} {m : Nat} {p : Int × Int} (hm : 0 < m) (hp : l[m - 1]? = some p) : geAt n v (l.drop (m - 1)) = if v ≤ p.1 then p.2 else geAt n v (l.drop m) := by
 have hl : m - 1 < l.length := by
  rcases Nat.lt_or_ge (m - 1) l.length with h' | h'
  ·exact h'
  ·rw [List.getElem?_eq_none h'] at hp; cases hp
 rw [List.drop_eq_getElem_cons hl, show m - 1 + 1 = m by omega]
 have e : l[m - 1] = p := by rw [List.getElem?_eq_getElem hl] at hp; exact Option.some.inj hp
 rw [e]; rfl
theorem lastLe_step {l : List (Int × Int)} {v : Int} {k : Nat} {p : Int × Int} (hp : l[k]? = some p) : lastLe l v (k + 1) = if p.1 ≤ v then p.2 else lastLe l v k := by rw [lastLe, getD_of hp]
def pieceT (c : Crk) (v : Int) : AV := if isCrk c = true ∧ bnd v = true then pcT c v else .tup [(false, [.sc (.int .i64 0)]), (false, [.sc (.int .i64 0)])]
/-- A step of a division. -/
def mvI (x y v : Int) (i : Int) : Int := if x < v then i + 1 else if v ≤ y then i else i + 1
def mvJ (x v : Int) (j : Int) : Int := if x < v then j else j - 1
def mvB (x y v : Int) : Bool := !decide (x < v) && !decide (v ≤ y)
def mvT (x y v : Int) (i j : Int) : AV := .tup [(false, [.sc (.int .i64 (mvI x y v i))]), (false, [.sc (.int .i64 (mvJ x v j))]), (false, [.sc (.bool (mvB x y v))])]

set_option maxRecDepth 20000 in
set_option maxHeartbeats 2000000 in
theorem c_spec_l4Piece (n : Int) (l : List (Int × Int)) (v : Int) (hs : sorted1 l) (hb : l.length ≤ 1048576) : EFn Tryz.prog 75 [.c (.sc (.int .i64 n)), .c (.ro (pairs l)), .c (.sc (.int .i64 v))] [] (fun r S => r = .tup [(false, [.sc (.int .i64 (pcFrom l v))]), (false, [.sc (.int .i64 (pcTo l n v))])] ∧ S = []) := by
 refine E_fn Tryz.func75 rfl (Nat.le_of_ble_eq_true rfl) ?_
 refine E_seq ?_
 refine E_region' (L := [0, 1]) rfl ?_
 refine xas ?_
 refine xas ?_
 refine EOps_nil ?_
 refine E_seq ?_
 refine E_region' (L := [0]) rfl ?_
 refine xas ?_
 refine EOps_nil ?_
 refine E_seq ?_
 refine E_region' (L := [0, 1]) rfl ?_
 refine xmv ?_
 refine xas ?_
 refine EOps_nil ?_
 refine E_seq ?_
 refine E_seq ?_
 refine E_region' (L := [0]) rfl ?_
 refine xas ?_
 refine EOps_nil ?_
 refine E_block ?_
 refine e_for (α := Nat) [0, 1, 2, 6, 7, 9] (fun k => [(10, .c (.sc (.int .i64 (k)))), (8, .c (.sc (.int .i64 ((lastLe l v k)))))]) (fun _ => _) (fun k => k ≤ l.length) (fun k => l.length - k) (0) ?_ (rfl) ⟨.inr rfl, .inr rfl, trivial⟩ ?_
 ·simp
 rintro k hk
 refine E_seq ?_
 refine E_seq ?_
 refine E_region' (L := [0, 1, 2, 3]) rfl ?_
 refine xmv ?_
 refine xmv ?_
 refine x_pure rfl rfl rfl (l_len rfl sl_27) ?_
 refine x_pure rfl rfl rfl (L_bin rfl rfl rfl rfl) ?_
 refine EOps_nil ?_
 refine E_cond rfl (fun hc16 => ?_) (fun hc16 => ?_)
 ·have hc16' : k < (l).length := by simpa [ints_len, bools_len, pairs_len, quads_len, quints_len] using hc16
  obtain ⟨p, hp⟩ : ∃ x, (l)[k]? = some x := ⟨_, List.getElem?_eq_getElem hc16'⟩
  have hstep := lastLe_step (v := v) hp
  refine E_skip ?_
  refine E_seq ?_
  refine E_block ?_
  refine E_seq ?_
  refine E_region' (L := [0, 1, 2, 3, 4, 5, 6]) rfl ?_
  refine xmv ?_
  refine xmv ?_
  refine x_pure rfl rfl rfl (L_index rfl rfl (by first | exact i_ro sl_27 ty_76 | exact i_sl sl_27 ty_76)) ?_
  refine x_pure rfl rfl rfl (l_field rfl fo_76_0) ?_
  refine x_light rfl rfl rfl (L_load rfl (by first | exact d_bp ty_3 | exact ld_rp ty_3 rfl | exact d_ep ty_3)) ?_
  refine xmv ?_
  refine x_pure rfl rfl rfl (L_bin rfl rfl rfl rfl) ?_
  refine EOps_nil ?_
  refine E_cond rfl (fun hc25 => ?_) (fun hc25 => ?_)
  ·have hA : lastLe l v (k + 1) = p.2 := by rw [hstep, if_pos (by simpa using hc25)]
   refine E_region' (L := [0, 1, 2, 3, 4, 5]) rfl ?_
   refine xmv ?_
   refine xmv ?_
   refine x_pure rfl rfl rfl (L_index rfl rfl (by first | exact i_ro sl_27 ty_76 | exact i_sl sl_27 ty_76)) ?_
   refine x_pure rfl rfl rfl (l_field rfl fo_76_1) ?_
   refine x_light rfl rfl rfl (L_load rfl (by first | exact d_bp ty_3 | exact ld_rp ty_3 rfl | exact d_ep ty_3)) ?_
   refine xas ?_
   refine EOps_nil ?_
   refine E_region' (L := [0, 1, 2]) rfl ?_
   refine xmv ?_
   refine x_pure rfl rfl rfl (by first | exact l_add rfl rfl rfl | exact L_bin rfl rfl rfl rfl) ?_
   refine xas ?_
   refine EOps_nil ?_
   refine ⟨k + 1, ?_, ?_, rfl, ⟨.inr rfl, .inr (int_eq hA.symm), trivial⟩, ⟨.inr rfl, .inr rfl, .inr rfl, .inr rfl, .inr rfl, .inr rfl, trivial⟩⟩
   ·first | omega | (dsimp only; omega) | (simp; omega)
   ·first | trivial | omega | (dsimp only; omega) | (simp; omega)
  ·have hA : lastLe l v (k + 1) = lastLe l v k := by rw [hstep, if_neg (by simpa using hc25)]
   refine E_skip ?_
   refine E_region' (L := [0, 1, 2]) rfl ?_
   refine xmv ?_
   refine x_pure rfl rfl rfl (by first | exact l_add rfl rfl rfl | exact L_bin rfl rfl rfl rfl) ?_
   refine xas ?_
   refine EOps_nil ?_
   refine ⟨k + 1, ?_, ?_, rfl, ⟨.inr rfl, .inr (int_eq hA.symm), trivial⟩, ⟨.inr rfl, .inr rfl, .inr rfl, .inr rfl, .inr rfl, .inr rfl, trivial⟩⟩
   ·first | omega | (dsimp only; omega) | (simp; omega)
   ·first | trivial | omega | (dsimp only; omega) | (simp; omega)
 ·have hkk : k = l.length := by simp [pairs_len] at hc16; omega
  have hpl : (pairs l).length = l.length := pairs_len _
  refine E_exit ?_
  refine E_seq ?_
  refine E_seq ?_
  refine E_region' (L := [0, 1, 2, 3]) rfl ?_
  refine xmv ?_
  refine x_pure rfl rfl rfl (l_len rfl sl_27) ?_
  refine x_pure rfl rfl rfl (by first | exact l_sub rfl rfl rfl | exact L_bin rfl rfl rfl rfl) ?_
  refine xas ?_
  refine EOps_nil ?_
  refine E_block ?_
  refine e_for (α := Nat) [0, 1, 2, 6, 7, 8, 10, 16, 25] (fun j => [(11, .c (.sc (.int .i64 (((pairs l).length - 1 - j))))), (9, .c (.sc (.int .i64 ((geAt n v (l.drop (l.length - j)))))))]) (fun _ => _) (fun j => j ≤ l.length) (fun j => l.length - j) (0) ?_ (rfl) ⟨.inr (int_eq (by simp)), .inr (int_eq (by simp [geAt])), trivial⟩ ?_
  ·simp
  rintro j hj
  refine E_seq ?_
  refine E_seq ?_
  refine E_region' (L := [0, 1]) rfl ?_
  refine xmv ?_
  refine x_pure rfl rfl rfl (L_bin rfl rfl rfl rfl) ?_
  refine EOps_nil ?_
  refine E_cond rfl (fun hc35 => ?_) (fun hc35 => ?_)
  ·have hj1 : j < l.length := by simp at hc35; omega
   obtain ⟨p, hp⟩ := at_lt (l := l) (k := l.length - j - 1) (by omega)
   have hp' : l[(((pairs l).length : Int) - 1 - (j : Int)).toNat]? = some p := by rw [hpl, show ((l.length : Int) - 1 - (j : Int)).toNat = l.length - j - 1 by omega]; exact hp
   have hstep := geAt_step (n := n) (v := v) (m := l.length - j) (by omega) hp
   rw [show l.length - j - 1 = l.length - (j + 1) by omega] at hstep
   refine E_skip ?_
   refine E_seq ?_
   refine E_block ?_
   refine E_seq ?_
   refine E_region' (L := [0, 1, 2, 3, 4, 5, 6]) rfl ?_
   refine xmv ?_
   refine xmv ?_
   refine x_pure rfl rfl rfl (L_index rfl rfl (by first | exact i_ro sl_27 ty_76 | exact i_sl sl_27 ty_76)) ?_
   refine x_pure rfl rfl rfl (l_field rfl fo_76_0) ?_
   refine x_light rfl rfl rfl (L_load rfl (by first | exact d_bp ty_3 | exact ld_rp ty_3 rfl | exact d_ep ty_3)) ?_
   refine xmv ?_
   refine x_pure rfl rfl rfl (L_bin rfl rfl rfl rfl) ?_
   refine EOps_nil ?_
   refine E_cond rfl (fun hc44 => ?_) (fun hc44 => ?_)
   ·have hZ : geAt n v (l.drop (l.length - (j + 1))) = p.2 := by rw [hstep, if_pos (by simpa using hc44)]
    refine E_region' (L := [0, 1, 2, 3, 4, 5]) rfl ?_
    refine xmv ?_
    refine xmv ?_
    refine x_pure rfl rfl rfl (L_index rfl rfl (by first | exact i_ro sl_27 ty_76 | exact i_sl sl_27 ty_76)) ?_
    refine x_pure rfl rfl rfl (l_field rfl fo_76_1) ?_
    refine x_light rfl rfl rfl (L_load rfl (by first | exact d_bp ty_3 | exact ld_rp ty_3 rfl | exact d_ep ty_3)) ?_
    refine xas ?_
    refine EOps_nil ?_
    refine E_region' (L := [0, 1, 2]) rfl ?_
    refine xmv ?_
    refine x_pure rfl rfl rfl (by first | exact l_sub rfl rfl rfl | exact L_bin rfl rfl rfl rfl) ?_
    refine xas ?_
    refine EOps_nil ?_
    refine ⟨j + 1, ?_, ?_, rfl, ⟨.inr (int_eq (by omega)), .inr (int_eq hZ.symm), trivial⟩, ⟨.inr rfl, .inr rfl, .inr rfl, .inr rfl, .inr rfl, .inr rfl, .inr rfl, .inr rfl, .inr rfl, trivial⟩⟩
    ·first | omega | (dsimp only; omega) | (simp; omega)
    ·first | trivial | omega | (dsimp only; omega) | (simp; omega)
   ·have hZ : geAt n v (l.drop (l.length - (j + 1))) = geAt n v (l.drop (l.length - j)) := by rw [hstep, if_neg (by simpa using hc44)]
    refine E_skip ?_
    refine E_region' (L := [0, 1, 2]) rfl ?_
    refine xmv ?_
    refine x_pure rfl rfl rfl (by first | exact l_sub rfl rfl rfl | exact L_bin rfl rfl rfl rfl) ?_
    refine xas ?_
    refine EOps_nil ?_
    refine ⟨j + 1, ?_, ?_, rfl, ⟨.inr (int_eq (by omega)), .inr (int_eq hZ.symm), trivial⟩, ⟨.inr rfl, .inr rfl, .inr rfl, .inr rfl, .inr rfl, .inr rfl, .inr rfl, .inr rfl, .inr rfl, trivial⟩⟩
    ·first | omega | (dsimp only; omega) | (simp; omega)
    ·first | trivial | omega | (dsimp only; omega) | (simp; omega)
  ·have hjj : j = l.length := by simp at hc35; omega
   refine E_exit ?_
   refine E_seq ?_
   refine E_region' (L := [0, 1, 2, 3]) rfl ?_
   refine xmv ?_
   refine xmv ?_
   refine xas ?_
   refine xas ?_
   refine EOps_nil ?_
   refine E_ret ?_
   refine ⟨_, [], rfl, rfl, ?_, rfl⟩
   rw [← geAt_eq, ← lastLe_eq hs]
   have e1 : lastLe l v k = lastLe l v l.length := by rw [hkk]
   have e2 : geAt n v (l.drop (l.length - j)) = geAt n v l := by rw [hjj, Nat.sub_self]; rfl
   simp only [e1, e2]; rfl

set_option maxRecDepth 20000 in
set_option maxHeartbeats 2000000 in
theorem c_spec_PieceOf (c : Crk) (v : Int) (hb : c.rows.length ≤ 1048576) : EFn Tryz.prog 61 [.agg (crkC c), .c (.sc (.int .i64 v))] [] (fun r S => r = pieceT c v ∧ S = []) := by
  refine E_fn Tryz.func61 rfl (Nat.le_of_ble_eq_true rfl) ?_
  refine E_seq ?_
  refine E_region' (L := [0, 1, 2]) rfl ?_
  refine x_box rfl rfl rfl rfl rfl ?_
  refine xas ?_
  refine xas ?_
  refine EOps_nil ?_
  refine E_seq ?_
  refine E_seq ?_
  refine e_tidy [0, 1, 2, 4, 5] ?_
  refine E_region' (L := [0, 1, 2, 3, 4, 5, 6, 7]) rfl ?_
  refine x_light rfl rfl rfl (L_load rfl (by first | exact d_bp ty_29 | exact ld_rp ty_29 rfl | exact d_ep ty_29)) ?_
  refine x_call rfl rfl rfl rfl rfl ca_36 (c_spec_IsCracker c) ?_
  rintro r S ⟨rfl, rfl⟩
  refine x_pure rfl rfl rfl (L_not rfl rfl) ?_
  refine xmv ?_
  refine EOps_split 9 (b := _) rfl (fun hg9 => ?_) (fun hg9 => ?_)
  · have hno : ¬ (isCrk c = true ∧ bnd v = true) := by simp at hg9; simp [hg9]
    refine x_skip rfl rfl rfl ?_
    refine x_skip rfl rfl rfl ?_
    refine x_skip rfl rfl rfl ?_
    refine x_pure rfl rfl rfl (L_pick rfl rfl) ?_
    refine EOps_nil ?_
    refine E_cond rfl (fun hc13 => ?_) (fun hc13 => ?_)
    · have hno : ¬ (isCrk c = true ∧ bnd v = true) := by
        first
          | exact hno
          | (have h1 : bnd v = false := by simpa [bnd] using hc13
             simp [h1])
      refine E_seq ?_
      refine E_region' (L := [0, 1]) rfl ?_
      refine xas ?_
      refine xas ?_
      refine EOps_nil ?_
      refine E_ret ?_
      refine ⟨_, [], rfl, rfl, ?_, rfl⟩
      rw [pieceT, if_neg hno]; rfl
    · exact Bool.noConfusion (hc13 : true = false)
  · have hc : isCrk c = true := by simpa using hg9
    have hl := crk_lens hc
    refine xmv ?_
    refine x_call rfl rfl rfl rfl rfl ca_34 (c_spec_l1In v (-1000) 1000) ?_
    rintro r S ⟨rfl, rfl⟩
    refine x_pure rfl rfl rfl (L_not rfl rfl) ?_
    refine x_pure rfl rfl rfl (L_pick rfl rfl) ?_
    refine EOps_nil ?_
    refine E_cond rfl (fun hc13 => ?_) (fun hc13 => ?_)
    · have hno : ¬ (isCrk c = true ∧ bnd v = true) := by
        first
          | exact hno
          | (have h1 : bnd v = false := by simpa [bnd] using hc13
             simp [h1])
      refine E_seq ?_
      refine E_region' (L := [0, 1]) rfl ?_
      refine xas ?_
      refine xas ?_
      refine EOps_nil ?_
      refine E_ret ?_
      refine ⟨_, [], rfl, rfl, ?_, rfl⟩
      rw [pieceT, if_neg hno]; rfl
    · have hv : bnd v = true := by simpa [bnd] using hc13
      refine E_skip ?_
      refine E_seq ?_
      refine e_tidy [0, 1, 2, 4, 5, 13] ?_
      refine E_region' (L := [0, 1, 2, 3, 4, 5, 6, 7, 8, 9, 10]) rfl ?_
      refine x_pure rfl rfl rfl (l_field rfl fo_29_0) ?_
      refine x_light rfl rfl rfl (L_load rfl (by first | exact d_bp ty_22 | exact ld_rp ty_22 rfl | exact d_ep ty_22)) ?_
      refine x_pure rfl rfl rfl (l_len rfl sl_22) ?_
      refine x_pure rfl rfl rfl (l_field rfl fo_29_2) ?_
      refine x_light rfl rfl rfl (L_load rfl (by first | exact d_bp ty_27 | exact ld_rp ty_27 rfl | exact d_ep ty_27)) ?_
      refine xmv ?_
      refine x_call rfl rfl rfl rfl rfl ca_75 (c_spec_l4Piece (ints c.vals).length c.piv v (crk_sorted hc) (by omega)) ?_
      rintro r S ⟨rfl, rfl⟩
      refine x_pure rfl rfl rfl (L_extract rfl rfl) ?_
      refine x_pure rfl rfl rfl (L_extract rfl rfl) ?_
      refine xas ?_
      refine xas ?_
      refine EOps_nil ?_
      refine E_ret ?_
      refine ⟨_, [], rfl, rfl, ?_, rfl⟩
      rw [pieceT, if_pos ⟨hc, hv⟩, pcT, ← ints_len c.vals]; rfl

set_option maxRecDepth 20000 in
set_option maxHeartbeats 2000000 in
theorem c_impl_move (xs : List Int) (i j : Nat) (v : Int) (x y : Int) (hx : xs[i]? = some x) (hy : xs[j]? = some y) (hb : i ≤ 1048576 ∧ j ≤ 1048576) : EFn Tryz.prog 93 [.c (.ro (ints xs)), .c (.sc (.int .i64 (i : Int))), .c (.sc (.int .i64 (j : Int))), .c (.sc (.int .i64 v))] [] (fun r S => r = mvT x y v i j ∧ S = []) := by
 refine E_fn Tryz.func93 rfl (Nat.le_of_ble_eq_true rfl) ?_
 refine E_seq ?_
 refine E_region' (L := [0, 1, 2]) rfl ?_
 refine xas ?_
 refine xas ?_
 refine xas ?_
 refine EOps_nil ?_
 refine E_seq ?_
 refine E_block ?_
 refine E_seq ?_
 refine E_region' (L := [0, 1, 2, 3, 4, 5, 6]) rfl ?_
 refine xmv ?_
 refine xmv ?_
 refine x_pure rfl rfl rfl (L_index rfl rfl (by first | exact i_ro sl_22 ty_3 | exact i_sl sl_22 ty_3)) ?_
 refine x_light rfl rfl rfl (L_load rfl (by first | exact d_bp ty_3 | exact ld_rp ty_3 rfl | exact d_ep ty_3)) ?_
 refine xmv ?_
 refine x_pure rfl rfl rfl (L_bin rfl rfl rfl rfl) ?_
 refine xas ?_
 refine EOps_nil ?_
 refine E_cond rfl (fun hc11 => ?_) (fun hc11 => ?_)
 ·refine E_seq ?_
  refine E_region' (L := [0, 1, 2, 3, 4, 5]) rfl ?_
  refine xmv ?_
  refine x_pure rfl rfl rfl (by first | exact l_add rfl rfl rfl | exact L_bin rfl rfl rfl rfl) ?_
  refine xmv ?_
  refine xas ?_
  refine xas ?_
  refine xas ?_
  refine EOps_nil ?_
  refine E_ret ?_
  refine ⟨_, [], rfl, rfl, ?_, rfl⟩
  have h1 : x < v := by simpa using hc11
  simp [mvT, mvI, mvJ, mvB, h1]; rfl
 ·refine E_seq ?_
  refine E_region' (L := [0, 1, 2, 3, 4, 5, 6]) rfl ?_
  refine xmv ?_
  refine xmv ?_
  refine x_pure rfl rfl rfl (L_index rfl rfl (by first | exact i_ro sl_22 ty_3 | exact i_sl sl_22 ty_3)) ?_
  refine x_light rfl rfl rfl (L_load rfl (by first | exact d_bp ty_3 | exact ld_rp ty_3 rfl | exact d_ep ty_3)) ?_
  refine xmv ?_
  refine x_pure rfl rfl rfl (L_bin rfl rfl rfl rfl) ?_
  refine xas ?_
  refine EOps_nil ?_
  refine E_cond rfl (fun hc21 => ?_) (fun hc21 => ?_)
  ·refine E_seq ?_
   refine E_region' (L := [0, 1, 2, 3, 4, 5]) rfl ?_
   refine xmv ?_
   refine xmv ?_
   refine x_pure rfl rfl rfl (by first | exact l_sub rfl rfl rfl | exact L_bin rfl rfl rfl rfl) ?_
   refine xas ?_
   refine xas ?_
   refine xas ?_
   refine EOps_nil ?_
   refine E_ret ?_
   refine ⟨_, [], rfl, rfl, ?_, rfl⟩
   have h1 : ¬ x < v := by simpa using hc11
   have h2 : v ≤ y := by simpa using hc21
   simp [mvT, mvI, mvJ, mvB, h1, h2]; rfl
  ·refine E_skip ?_
   refine E_seq ?_
   refine E_region' (L := [0, 1, 2, 3, 4, 5, 6]) rfl ?_
   refine xmv ?_
   refine x_pure rfl rfl rfl (by first | exact l_add rfl rfl rfl | exact L_bin rfl rfl rfl rfl) ?_
   refine xmv ?_
   refine x_pure rfl rfl rfl (by first | exact l_sub rfl rfl rfl | exact L_bin rfl rfl rfl rfl) ?_
   refine xas ?_
   refine xas ?_
   refine xas ?_
   refine EOps_nil ?_
   refine E_ret ?_
   refine ⟨_, [], rfl, rfl, ?_, rfl⟩
   have h1 : ¬ x < v := by simpa using hc11
   have h2 : ¬ v ≤ y := by simpa using hc21
   simp [mvT, mvI, mvJ, mvB, h1, h2]; rfl

end Go.Proofs.YthnadkagchbhbaaGreat.E
