/- Walks through functions, by program out of the session's annotations. -/
import Derived.Test.YtcepgfcolmdnoaaA134
import Derived.Test.YtcepgfcolmdnoaaA122
import Derived.Test.YtcepgfcolmdnoaaA13
import Derived.Test.YtcepgfcolmdnoaaA24
namespace Go.Proofs.Ytcepgfcolmdnoaa.E
open Go Go.RowKit Go.Proofs
set_option linter.unusedVariables false
set_option linter.unusedSimpArgs false

/-- Every row of y, and its value in the tail, stands somewhere in x. -/
def along (x y : Mp) : Prop := y.c.rows.length = x.c.rows.length ∧ y.tail.length = x.tail.length ∧ ∀ i : Nat, i < x.tail.length → ∃ j : Nat, j < x.tail.length ∧ y.c.rows.getD i 0 = x.c.rows.getD j 0 ∧ y.tail.getD i 0 = x.tail.getD j 0
theorem along_refl (x : Mp) : along x x := ⟨rfl, rfl, fun i hi => ⟨i, hi, rfl, rfl⟩⟩
theorem along_trans {x y z : Mp} (h : along x y) (k : along y z) : along x z :=
 ⟨k.1.trans h.1, k.2.1.trans h.2.1, fun i hi => by
  obtain ⟨j, hj, e1, e2⟩ := k.2.2 i (by rw [h.2.1]; exact hi)
  obtain ⟨m, hm, e3, e4⟩ := h.2.2 j (by rw [← h.2.1]; exact hj)
  exact ⟨m, hm, e1.trans e3, e2.trans e4⟩⟩
theorem crackC_rows {c : Crk} {v : Int} : (crackC c v).1.rows = swps c.rows (crackC c v).2 := by
 cases h : isPv c.piv v
 ·rw [crackC, if_neg (by simp [h])]; rfl
 ·rw [crackC, if_pos h]; rfl
theorem along_step {m : Mp} {v : Int} (hm : isMap m = true) (hv : bnd v = true) : along m (alStep m v) := by
 obtain ⟨h1, h2, h3, h4, h5⟩ := map_parts hm
 have hs := crackC_swIn h1 hv
 have hl := crk_lens h1
 have e1 : (alStep m v).c.rows = swps m.c.rows (crackC m.c v).2 := crackC_rows
 have e2 : (alStep m v).tail = swps m.tail (crackC m.c v).2 := rfl
 refine ⟨by rw [e1, swps_len], by rw [e2, swps_len], fun i hi => ⟨tau (crackC m.c v).2 i, ?_, ?_, ?_⟩⟩
 ·have := ((tau_in (a := 0) (b := m.c.vals.length) (Int.le_refl _) hs i).1 ⟨by omega, by omega⟩).2
  omega
 ·rw [e1]; exact swps_at _ _ (by rw [hl.2.1]; exact hs) i
 ·rw [e2]; exact swps_at _ _ (by rw [h3]; exact hs) i
theorem alGo_along : ∀ (h : List Int) (m : Mp), isMap m = true → (∀ v ∈ h, bnd v = true) → m.app + h.length ≤ 60 → along m (alGo h m) := by
 intro h
 induction h with
 | nil => intro m _ _ _; exact along_refl m
 | cons v h ih =>
  intro m hm hb hl
  have hap : (alStep m v).app = m.app + 1 := rfl
  rw [List.length_cons] at hl
  rw [alGo]
  exact along_trans (along_step hm (hb v (List.mem_cons_self ..))) (ih _ (alStep_ok hm (hb v (List.mem_cons_self ..)) (by omega)) (fun u hu => hb u (List.mem_cons_of_mem _ hu)) (by rw [hap]; omega))
theorem alGo_app : ∀ (h : List Int) (m : Mp), (alGo h m).app = m.app + h.length := by
 intro h
 induction h with
 | nil => intro m; simp [alGo]
 | cons v h ih =>
  intro m
  have hap : (alStep m v).app = m.app + 1 := rfl
  rw [alGo, ih, hap, List.length_cons]
  omega
structure MapsOk (x : Mp) (hs : List Int) : Prop where
 ok : isMap (alM x hs) = true
 app : (alM x hs).app = hs.length
 n : alN x hs = hs.length - x.app
 al : along x (alM x hs)
 mp : isMap x = true
theorem maps_ok {x : Mp} {hs : List Int} (hk : alK x hs = true) : MapsOk x hs := by
 have hmv : (isMap x = true ∧ isHist hs = true) ∧ x.app ≤ hs.length := by simpa [alK] using hk
 obtain ⟨⟨hm, hh⟩, hal⟩ := hmv
 have hh := hist_parts hh
 have hp := map_parts hm
 have e : alM x hs = alGo (hs.drop x.app.toNat) x := by rw [alM, if_pos hk]
 have hb : ∀ v ∈ hs.drop x.app.toNat, bnd v = true := fun v hv => hh.2 v (List.mem_of_mem_drop hv)
 have hl : x.app + (hs.drop x.app.toNat).length ≤ 60 := by rw [List.length_drop]; omega
 exact ⟨by rw [e]; exact alGo_ok _ _ hm hb hl, by rw [e, alGo_app, List.length_drop]; omega, by rw [alN, if_pos hk], by rw [e]; exact alGo_along _ _ hm hb hl, hm⟩
theorem rowIx_inj {c : Crk} (hc : isCrk c = true) {j : Nat} {w : Int} (hj : j < c.vals.length) (h : c.rows.getD j 0 = w) : rowIx c.rows w = j := by
 have ho := (crk_iff c).1 hc
 have hjr : j < c.rows.length := by rw [ho.rl]; exact hj
 have hm : w ∈ c.rows := by rw [← h, getD_at hjr]; exact List.getElem_mem _
 obtain ⟨k, h1, h2⟩ := rowIx_mem hm
 have hk : k < c.rows.length := by
  rcases Nat.lt_or_ge k c.rows.length with h' | h'
  ·exact h'
  ·rw [List.getElem?_eq_none h'] at h2; cases h2
 have h3 : c.rows.getD k 0 = w := getD_of h2
 have h4 := ho.ri k j (by rw [← ho.rl]; exact hk) hj (h3.trans h.symm)
 rw [h1, h4]

theorem e_tidy_A135_0 {P : Program} {N : Nat} {s : Slots} {R : List Res} {Q : Exit → Slots → List Res → Prop} {c : Code} (keep : List Nat) {base : Slots} {R' : List Res} (h : ECode P N c base R' Q) (hb : keepOf s keep = base := by simp only [E.keepOf, E.get, E.ev, E.cv, E.fill', E.fill, E.slotsOf, Res.sh, AC.sh, AC.sh.shs, AV.sh, E.splice, List.map_cons, List.map_nil, List.cons_append, List.nil_append, List.append_nil, List.length_cons, List.length_nil, List.take_zero, List.drop_zero, List.take_succ_cons, List.drop_succ_cons, List.drop_nil, List.take_nil, List.set_cons_zero, List.set_cons_succ, Nat.zero_add, Nat.add_zero, Nat.reduceAdd, Nat.reduceSub, reduceIte, Nat.reduceEqDiff, E.back, E.backR, E.ix, Res.un, AC.un, AC.un.uns, AV.un, E.un, Option.map_some, Option.map_none, Option.getD_some, List.getElem?_cons_zero, List.getElem?_cons_succ, List.getElem?_nil, crkR, crkO, mpO, mpR]; rfl) (hR : R = R' := by (try simp only [E.keepOf, E.get, E.ev, E.cv, E.fill', E.fill, E.slotsOf, Res.sh, AC.sh, AC.sh.shs, AV.sh, E.splice, List.map_cons, List.map_nil, List.cons_append, List.nil_append, List.append_nil, List.length_cons, List.length_nil, List.take_zero, List.drop_zero, List.take_succ_cons, List.drop_succ_cons, List.drop_nil, List.take_nil, List.set_cons_zero, List.set_cons_succ, Nat.zero_add, Nat.add_zero, Nat.reduceAdd, Nat.reduceSub, reduceIte, Nat.reduceEqDiff, E.back, E.backR, E.ix, Res.un, AC.un, AC.un.uns, AV.un, E.un, Option.map_some, Option.map_none, Option.getD_some, List.getElem?_cons_zero, List.getElem?_cons_succ, List.getElem?_nil, crkR, crkO, mpO, mpR]); rfl) : ECode P N c s R Q := E_tidy keep hb hR h
theorem e_for_A135_1 {P : Program} {N : Nat} {s : Slots} {R : List Res} {Q : Exit → Slots → List Res → Prop} {α : Type} {c : Code} (keep : List Nat) (mods : α → Slots) (Rf : α → List Res) (I : α → Prop) (m : α → Nat) (x0 : α) {base : Slots} (h0 : I x0) (hR : R = Rf x0) (h1 : chk s (mods x0))
  (round : ∀ x, I x → ECode P N c (mods x ++ base) (Rf x) (EThen (fun s' R' => ∃ y, m y < m x ∧ I y ∧ R' = Rf y ∧ chk s' (mods y) ∧ chk s' base) Q)) (hb : keepOf s keep = base := by simp only [E.keepOf, E.get, E.ev, E.cv, E.fill', E.fill, E.slotsOf, Res.sh, AC.sh, AC.sh.shs, AV.sh, E.splice, List.map_cons, List.map_nil, List.cons_append, List.nil_append, List.append_nil, List.length_cons, List.length_nil, List.take_zero, List.drop_zero, List.take_succ_cons, List.drop_succ_cons, List.drop_nil, List.take_nil, List.set_cons_zero, List.set_cons_succ, Nat.zero_add, Nat.add_zero, Nat.reduceAdd, Nat.reduceSub, reduceIte, Nat.reduceEqDiff, E.back, E.backR, E.ix, Res.un, AC.un, AC.un.uns, AV.un, E.un, Option.map_some, Option.map_none, Option.getD_some, List.getElem?_cons_zero, List.getElem?_cons_succ, List.getElem?_nil, crkR, crkO, mpO, mpR]; rfl) : ECode P N (.loop c) s R Q := E_for keep mods Rf I m x0 hb h0 hR h1 round

set_option maxRecDepth 20000 in
set_option maxHeartbeats 8000000 in
theorem c_laws_FnMaps (l : List Int) (hb0 : ∀ x ∈ l, 0 ≤ x ∧ x ≤ 255) : EFn Try.prog 6 [.c (.ro (bytes l))] [] (fun r S => r = .c (.sc (.bool true)) ∧ S = []) := by
 refine E_fn Try.func6 rfl (Nat.le_of_ble_eq_true rfl) ?_
 refine E_seq ?_
 refine E_region' (L := [0]) rfl ?_
 refine xas ?_
 refine EOps_nil ?_
 refine E_seq ?_
 refine E_seq ?_
 refine e_tidy_A135_0 [0, 2] ?_
 refine E_region' (L := [0, 1]) rfl ?_
 refine xmv ?_
 refine x_call rfl rfl rfl rfl rfl ca_10 (c_laws_big l) ?_
 rintro r S ⟨rfl, rfl⟩
 refine EOps_nil ?_
 refine E_cond rfl (fun hc20 => ?_) (fun hc20 => ?_)
 ·refine E_seq ?_
  refine E_region' (L := [0]) rfl ?_
  refine xas ?_
  refine EOps_nil ?_
  refine E_ret ?_
  exact ⟨_, [], rfl, rfl, rfl, rfl⟩
 ·have hb : byL l := ⟨hb0, by simp at hc20; omega⟩
  refine E_skip ?_
  refine E_seq ?_
  refine e_tidy_A135_0 [0, 2, 20] ?_
  refine E_region' (L := [0, 1, 2, 3, 4, 5, 6]) rfl ?_
  refine xmv ?_
  refine x_call rfl rfl rfl rfl rfl ca_40 (c_spec_DrawNewMap l hb) ?_ (hq := by rintro r S ⟨_, _, ⟨rfl, rfl⟩, _, _⟩; exact ⟨rfl, rfl⟩)
  rintro r S ⟨xs, ys, ⟨rfl, rfl⟩, hxs, hys⟩
  refine xmv ?_
  refine x_pure rfl rfl rfl (L_extract rfl rfl) ?_
  refine x_pure rfl rfl rfl (L_extract rfl rfl) ?_
  refine xas ?_
  refine xas ?_
  refine EOps_nil ?_
  refine E_seq ?_
  refine e_tidy_A135_0 [0, 2, 3, 4, 20] ?_
  refine E_region' (L := [0, 1, 2, 3, 4]) rfl ?_
  refine xmv ?_
  refine xmv ?_
  refine x_call rfl rfl rfl rfl rfl ca_41 (c_impl_NewMap xs ys (by omega)) ?_
  rintro r S ⟨rfl, rfl⟩
  refine x_alloc rfl rfl rfl rfl za_29 ?_
  refine EOps_go rfl rfl (EOp_store rfl rfl rfl (by first | exact s_bp ty_29 | exact s_ep ty_29) ?_)
  refine EOps_nil ?_
  refine E_seq ?_
  refine E_seq ?_
  refine e_tidy_A135_0 [0, 2, 3, 4, 5, 20] ?_
  refine E_drawT mixed ?_
  refine t_light 0 rfl rfl rfl (L_load rfl (by first | exact d_bp ty_29 | exact ld_rp ty_29 rfl | exact d_ep ty_29)) ?_
  refine t_old 1 rfl rfl rfl (L_move rfl) ?_
  refine t_old 2 rfl rfl rfl (L_move rfl) ?_
  refine t_call 3 rfl rfl rfl rfl rfl ca_42 (c_spec_NewMap xs ys (by omega)) ?_
  rintro r S ⟨rfl, rfl⟩
  refine t_call 4 rfl rfl rfl rfl rfl ca_14 (c_spec_EqualMaps (newMp xs ys) (newMp xs ys)) ?_
  rintro r S ⟨rfl, rfl⟩
  refine t_old 5 rfl rfl rfl (L_not rfl rfl) ?_
  refine T_done (by kernel_rfl) ?_
  refine E_cond rfl (fun hc34 => ?_) (fun hc34 => ?_)
  ·simp at hc34
  ·refine E_skip ?_
   refine E_seq ?_
   refine e_tidy_A135_0 [0, 2, 3, 4, 5, 20, 34] ?_
   refine E_region' (L := [0, 1, 2, 3, 4, 5, 6, 7]) rfl ?_
   refine xmv ?_
   refine x_call rfl rfl rfl rfl rfl ca_43 (c_spec_DrawAlignMap l hb) ?_ (hq := by rintro r S ⟨_, _, ⟨rfl, rfl⟩, _, _, _, _, _⟩; exact ⟨rfl, rfl⟩)
   rintro r S ⟨x, hs, ⟨rfl, rfl⟩, hhs, hxv, hxr, hxp, hxt⟩
   refine xmv ?_
   refine x_pure rfl rfl rfl (L_extract rfl rfl) ?_
   refine x_pure rfl rfl rfl (L_extract rfl rfl) ?_
   refine x_alloc rfl rfl rfl rfl za_29 ?_
   refine EOps_go rfl rfl (EOp_store rfl rfl rfl (by first | exact s_bp ty_29 | exact s_ep ty_29) ?_)
   refine xas ?_
   refine EOps_nil ?_
   refine E_seq ?_
   refine e_tidy_A135_0 [0, 2, 3, 4, 5, 6, 7, 20, 34] ?_
   refine E_region' (L := [0, 1, 2, 3, 4, 5, 6, 7, 8, 9, 10]) rfl ?_
   refine x_light rfl rfl rfl (L_load rfl (by first | exact d_bp ty_29 | exact ld_rp ty_29 rfl | exact d_ep ty_29)) ?_
   refine xmv ?_
   refine x_call rfl rfl rfl rfl rfl ca_44 (c_impl_AlignMap x hs (by omega)) ?_
   rintro r S ⟨rfl, rfl⟩
   refine xmv ?_
   refine x_pure rfl rfl rfl (L_extract rfl rfl) ?_
   refine x_pure rfl rfl rfl (L_extract rfl rfl) ?_
   refine x_pure rfl rfl rfl (L_extract rfl rfl) ?_
   refine x_alloc rfl rfl rfl rfl za_29 ?_
   refine EOps_go rfl rfl (EOp_store rfl rfl rfl (by first | exact s_bp ty_29 | exact s_ep ty_29) ?_)
   refine xas ?_
   refine xas ?_
   refine EOps_nil ?_
   refine E_seq ?_
   refine e_tidy_A135_0 [0, 2, 3, 4, 5, 6, 7, 8, 9, 10, 20, 34] ?_
   refine E_region' (L := [0, 1, 2, 3, 4, 5, 6, 7, 8, 9, 10]) rfl ?_
   refine x_light rfl rfl rfl (L_load rfl (by first | exact d_bp ty_29 | exact ld_rp ty_29 rfl | exact d_ep ty_29)) ?_
   refine xmv ?_
   refine x_call rfl rfl rfl rfl rfl ca_45 (c_spec_AlignMap x hs (by omega)) ?_
   rintro r S ⟨rfl, rfl⟩
   refine xmv ?_
   refine x_pure rfl rfl rfl (L_extract rfl rfl) ?_
   refine x_pure rfl rfl rfl (L_extract rfl rfl) ?_
   refine x_pure rfl rfl rfl (L_extract rfl rfl) ?_
   refine x_alloc rfl rfl rfl rfl za_29 ?_
   refine EOps_go rfl rfl (EOp_store rfl rfl rfl (by first | exact s_bp ty_29 | exact s_ep ty_29) ?_)
   refine xas ?_
   refine xas ?_
   refine EOps_nil ?_
   refine E_seq ?_
   refine E_seq ?_
   refine e_tidy_A135_0 [0, 2, 3, 4, 5, 6, 7, 8, 9, 10, 11, 12, 13, 20, 34] ?_
   refine E_region' (L := [0, 1, 2, 3, 4, 5, 6, 7, 8, 9, 10, 11, 12, 13]) rfl ?_
   refine xmv ?_
   refine xmv ?_
   refine x_pure rfl rfl rfl (L_binB rfl bo_4 rfl rfl rfl) ?_
   refine xmv ?_
   refine EOps_split 57 (b := _) rfl (fun hg57 => ?_) (fun hg57 => ?_)
   ·simp at hg57
   ·refine xmv ?_
    refine xmv ?_
    refine x_pure rfl rfl rfl (L_bin rfl rfl rfl rfl) ?_
    refine x_pure rfl rfl rfl (L_pick rfl rfl) ?_
    refine xmv ?_
    refine EOps_split 62 (b := _) rfl (fun hg62 => ?_) (fun hg62 => ?_)
    ·simp at hg62
    ·refine x_light rfl rfl rfl (L_load rfl (by first | exact d_bp ty_29 | exact ld_rp ty_29 rfl | exact d_ep ty_29)) ?_
     refine x_light rfl rfl rfl (L_load rfl (by first | exact d_bp ty_29 | exact ld_rp ty_29 rfl | exact d_ep ty_29)) ?_
     refine x_call rfl rfl rfl rfl rfl ca_14 (c_spec_EqualMaps (alM x hs) (alM x hs)) ?_
     rintro r S ⟨rfl, rfl⟩
     refine x_pure rfl rfl rfl (L_not rfl rfl) ?_
     refine x_pure rfl rfl rfl (L_pick rfl rfl) ?_
     refine EOps_nil ?_
     refine E_cond rfl (fun hc67 => ?_) (fun hc67 => ?_)
     ·simp at hc67
     ·refine E_skip ?_
      refine E_seq ?_
      refine E_seq ?_
      refine E_region' (L := [0]) rfl ?_
      refine xmv ?_
      refine EOps_nil ?_
      refine E_cond rfl (fun hc68 => ?_) (fun hc68 => ?_)
      ·have hk : alK x hs = true := by simpa using hc68
       obtain ⟨m1, m2, m3, m4, m5⟩ := maps_ok hk
       have hmx := map_parts m5
       have hlx := crk_lens hmx.1
       generalize alM x hs = M at *
       generalize alN x hs = nn at *
       subst m3
       have hml := m4.1
       have hmt := m4.2.1
       refine E_seq ?_
       refine e_tidy_A135_0 [0, 2, 3, 4, 5, 6, 7, 8, 9, 10, 11, 12, 13, 20, 34, 67, 68] ?_
       refine E_region' (L := [0, 1, 2, 3, 4, 5, 6, 7, 8]) rfl ?_
       refine x_pure rfl rfl rfl (l_field rfl fo_29_0) ?_
       refine x_pure rfl rfl rfl (l_field rfl fo_27_0) ?_
       refine x_light rfl rfl rfl (L_load rfl (by first | exact d_bp ty_24 | exact ld_rp ty_24 rfl | exact d_ep ty_24)) ?_
       refine x_pure rfl rfl rfl (l_field rfl fo_29_0) ?_
       refine x_pure rfl rfl rfl (l_field rfl fo_27_1) ?_
       refine x_light rfl rfl rfl (L_load rfl (by first | exact d_bp ty_24 | exact ld_rp ty_24 rfl | exact d_ep ty_24)) ?_
       refine x_call rfl rfl rfl rfl rfl ca_41 (c_impl_NewMap x.c.vals x.c.rows (by omega)) ?_
       rintro r S ⟨rfl, rfl⟩
       generalize newMp x.c.vals x.c.rows = Q0 at *
       refine x_alloc rfl rfl rfl rfl za_29 ?_
       refine EOps_go rfl rfl (EOp_store rfl rfl rfl (by first | exact s_bp ty_29 | exact s_ep ty_29) ?_)
       refine EOps_nil ?_
       refine E_seq ?_
       refine E_seq ?_
       refine e_tidy_A135_0 [0, 2, 3, 4, 5, 6, 7, 8, 9, 10, 11, 12, 13, 14, 20, 34, 67, 68] ?_
       refine E_region' (L := [0, 1, 2, 3, 4, 5, 6, 7, 8, 9, 10, 11, 12, 13, 14, 15, 16, 17, 18, 19, 20, 21, 22, 23, 24, 25, 26, 27, 28, 29, 30, 31, 32, 33]) rfl ?_
       refine x_pure rfl rfl rfl (l_field rfl fo_29_1) ?_
       refine x_light rfl rfl rfl (L_load rfl (by first | exact d_bp ty_24 | exact ld_rp ty_24 rfl | exact d_ep ty_24)) ?_
       refine x_pure rfl rfl rfl (l_len rfl sl_24) ?_
       refine x_pure rfl rfl rfl (l_field rfl fo_29_1) ?_
       refine x_light rfl rfl rfl (L_load rfl (by first | exact d_bp ty_24 | exact ld_rp ty_24 rfl | exact d_ep ty_24)) ?_
       refine x_pure rfl rfl rfl (l_len rfl sl_24) ?_
       refine x_pure rfl rfl rfl (L_bin rfl rfl rfl rfl) ?_
       refine xmv ?_
       refine EOps_split 83 (b := _) rfl (fun hg83 => ?_) (fun hg83 => ?_)
       ·refine x_pure rfl rfl rfl (l_field rfl fo_29_1) ?_
        refine x_light rfl rfl rfl (L_load rfl (by first | exact d_bp ty_24 | exact ld_rp ty_24 rfl | exact d_ep ty_24)) ?_
        refine x_pure rfl rfl rfl (l_len rfl sl_24) ?_
        refine x_pure rfl rfl rfl (L_bin rfl rfl rfl rfl) ?_
        refine x_pure rfl rfl rfl (L_pick rfl rfl) ?_
        refine xmv ?_
        refine EOps_split 89 (b := _) rfl (fun hg89 => ?_) (fun hg89 => ?_)
        ·refine x_light rfl rfl rfl (L_load rfl (by first | exact d_bp ty_29 | exact ld_rp ty_29 rfl | exact d_ep ty_29)) ?_
         refine x_call rfl rfl rfl rfl rfl ca_17 (c_impl_IsMap M) ?_
         rintro r S ⟨rfl, rfl⟩
         refine x_pure rfl rfl rfl (L_not rfl rfl) ?_
         refine xmv ?_
         refine EOps_split 93 (b := _) rfl (fun hg93 => ?_) (fun hg93 => ?_)
         ·simp [m1] at hg93
         ·refine x_pure rfl rfl rfl (l_field rfl fo_29_2) ?_
          refine x_light rfl rfl rfl (L_load rfl (by first | exact d_bp ty_3 | exact ld_rp ty_3 rfl | exact d_ep ty_3)) ?_
          refine xmv ?_
          refine x_pure rfl rfl rfl (l_len rfl sl_24) ?_
          refine x_pure rfl rfl rfl (L_bin rfl rfl rfl rfl) ?_
          refine x_pure rfl rfl rfl (L_pick rfl rfl) ?_
          refine xmv ?_
          refine EOps_split 100 (b := _) rfl (fun hg100 => ?_) (fun hg100 => ?_)
          ·exfalso; simp [m2] at hg100
          ·refine xmv ?_
           refine xmv ?_
           refine x_pure rfl rfl rfl (l_len rfl sl_24) ?_
           refine x_pure rfl rfl rfl (l_field rfl fo_29_2) ?_
           refine x_light rfl rfl rfl (L_load rfl (by first | exact d_bp ty_3 | exact ld_rp ty_3 rfl | exact d_ep ty_3)) ?_
           refine x_pure rfl rfl rfl (by first | exact l_sub rfl rfl rfl | exact L_bin rfl rfl rfl rfl) ?_
           refine x_pure rfl rfl rfl (L_bin rfl rfl rfl rfl) ?_
           refine x_pure rfl rfl rfl (L_pick rfl rfl) ?_
           refine x_pure rfl rfl rfl (L_pick rfl rfl) ?_
           refine EOps_nil ?_
           refine E_cond rfl (fun hc109 => ?_) (fun hc109 => ?_)
           ·exfalso; simp at hc109
           ·refine E_skip ?_
            refine E_seq ?_
            refine E_region' (L := [0]) rfl ?_
            refine xas ?_
            refine EOps_nil ?_
            refine E_block ?_
            refine e_for_A135_1 (α := Nat) [0, 3, 4, 5, 6, 7, 8, 9, 10, 11, 12, 13, 14, 20, 34, 67, 68, 109] (fun k => [(15, .c (.sc (.int .i64 ((k : Int))))), (16, .any), (2, .any)]) (fun _ => _) (fun k => k ≤ M.tail.length) (fun k => M.tail.length - k) (0) ?_ (rfl) ⟨.inr rfl, .inl rfl, .inl rfl, trivial⟩ ?_
            ·simp
            rintro k hkn
            refine E_seq ?_
            refine E_seq ?_
            refine E_region' (L := [0, 1, 2, 3, 4]) rfl ?_
            refine xmv ?_
            refine x_pure rfl rfl rfl (l_field rfl fo_29_1) ?_
            refine x_light rfl rfl rfl (L_load rfl (by first | exact d_bp ty_24 | exact ld_rp ty_24 rfl | exact d_ep ty_24)) ?_
            refine x_pure rfl rfl rfl (l_len rfl sl_24) ?_
            refine x_pure rfl rfl rfl (L_bin rfl rfl rfl rfl) ?_
            refine EOps_nil ?_
            refine E_cond rfl (fun hc114 => ?_) (fun hc114 => ?_)
            ·have hk1 : k < M.tail.length := by simp at hc114; omega
             obtain ⟨j, hj, e1, e2⟩ := m4.2.2 k (by omega)
             obtain ⟨yr, hyr⟩ := at_lt (l := M.c.rows) (k := k) (by omega)
             obtain ⟨yt, hyt⟩ := at_lt (l := M.tail) hk1
             obtain ⟨xt, hxt1⟩ := at_lt (l := x.tail) hj
             rw [getD_of hyr] at e1
             rw [getD_of hyt, getD_of hxt1] at e2
             have hix : rowIx x.c.rows yr = j := rowIx_inj hmx.1 (by omega) e1.symm
             subst e2
             refine E_skip ?_
             refine E_seq ?_
             refine E_block ?_
             refine E_seq ?_
             refine e_tidy_A135_0 [0, 2, 3, 4, 5, 6, 7, 8, 9, 10, 11, 12, 13, 14, 15, 16, 20, 34, 67, 68, 109, 114, 140] ?_
             refine E_drawT mixed ?_
             refine t_old 0 rfl rfl rfl (l_field rfl fo_29_0) ?_
             refine t_light 1 rfl rfl rfl (L_load rfl (by first | exact d_bp ty_27 | exact ld_rp ty_27 rfl | exact d_ep ty_27)) ?_
             refine t_old 2 rfl rfl rfl (l_field rfl fo_29_0) ?_
             refine t_old 3 rfl rfl rfl (l_field rfl fo_27_1) ?_
             refine t_light 4 rfl rfl rfl (L_load rfl (by first | exact d_bp ty_24 | exact ld_rp ty_24 rfl | exact d_ep ty_24)) ?_
             refine t_old 5 rfl rfl rfl (L_move rfl) ?_
             refine t_old 6 rfl rfl rfl (L_index rfl rfl (by first | exact i_ro sl_24 ty_3 | exact i_sl sl_24 ty_3)) ?_
             refine t_light 7 rfl rfl rfl (L_load rfl (by first | exact d_bp ty_3 | exact ld_rp ty_3 rfl | exact d_ep ty_3)) ?_
             refine t_call 8 rfl rfl rfl rfl rfl ca_46 (c_spec_FindRow x.c yr (by omega)) ?_
             rintro r S ⟨rfl, rfl⟩
             rw [hix]
             refine t_old 9 rfl rfl rfl (L_assign rfl) ?_
             refine T_done (by kernel_rfl) ?_
             refine E_seq ?_
             refine E_drawT mixed ?_
             refine t_old 0 rfl rfl rfl (L_move rfl) ?_
             refine t_old 1 rfl rfl rfl (L_bin rfl rfl rfl rfl) ?_
             refine t_old 2 rfl rfl rfl (L_move rfl) ?_
             refine T_split 128 (b := _) rfl rfl (fun hg128 => ?_) (fun hg128 => ?_)
             ·exfalso; simp at hg128; omega
             ·refine t_old 3 rfl rfl rfl (l_field rfl fo_29_1) ?_
              refine t_light 4 rfl rfl rfl (L_load rfl (by first | exact d_bp ty_24 | exact ld_rp ty_24 rfl | exact d_ep ty_24)) ?_
              refine t_old 5 rfl rfl rfl (L_move rfl) ?_
              refine t_old 6 rfl rfl rfl (L_index rfl rfl (by first | exact i_ro sl_24 ty_3 | exact i_sl sl_24 ty_3)) ?_
              refine t_light 7 rfl rfl rfl (L_load rfl (by first | exact d_bp ty_3 | exact ld_rp ty_3 rfl | exact d_ep ty_3)) ?_
              refine t_old 8 rfl rfl rfl (l_field rfl fo_29_1) ?_
              refine t_light 9 rfl rfl rfl (L_load rfl (by first | exact d_bp ty_24 | exact ld_rp ty_24 rfl | exact d_ep ty_24)) ?_
              refine t_old 10 rfl rfl rfl (L_move rfl) ?_
              refine t_old 11 rfl rfl rfl (L_index rfl rfl (by first | exact i_ro sl_24 ty_3 | exact i_sl sl_24 ty_3)) ?_
              refine t_light 12 rfl rfl rfl (L_load rfl (by first | exact d_bp ty_3 | exact ld_rp ty_3 rfl | exact d_ep ty_3)) ?_
              refine t_old 13 rfl rfl rfl (L_bin rfl rfl rfl rfl) ?_
              refine t_old 14 rfl rfl rfl (L_pick rfl rfl) ?_
              refine T_done (by kernel_rfl) ?_
              refine E_cond rfl (fun hc140 => ?_) (fun hc140 => ?_)
              ·exfalso; simp at hc140
              ·refine E_skip ?_
               refine E_region' (L := [0, 1, 2]) rfl ?_
               refine xmv ?_
               refine x_pure rfl rfl rfl (by first | exact l_add rfl rfl rfl | exact L_bin rfl rfl rfl rfl) ?_
               refine xas ?_
               refine EOps_nil ?_
               refine ⟨k + 1, ?_, ?_, rfl, ⟨.inr rfl, .inl rfl, .inl rfl, trivial⟩, ⟨.inr rfl, .inr rfl, .inr rfl, .inr rfl, .inr rfl, .inr rfl, .inr rfl, .inr rfl, .inr rfl, .inr rfl, .inr rfl, .inr rfl, .inr rfl, .inr rfl, .inr rfl, .inr rfl, .inr rfl, .inr rfl, trivial⟩⟩
               ·first | omega | (dsimp only; omega) | (simp; omega)
               ·first | trivial | omega | (dsimp only; omega) | (simp; omega)
            ·refine E_exit ?_
             refine E_seq ?_
             refine e_tidy_A135_0 [0, 2, 3, 4, 5, 6, 7, 8, 9, 10, 11, 12, 13, 14, 15, 16, 20, 34, 67, 68, 109, 114, 140] ?_
             refine E_region' (L := [0, 1, 2, 3, 4, 5, 6, 7, 8]) rfl ?_
             refine xmv ?_
             refine x_call rfl rfl rfl rfl rfl ca_47 (c_spec_DrawAreAligned l hb) ?_ (hq := by rintro r S ⟨_, _, ⟨rfl, rfl⟩, _, _⟩; exact ⟨rfl, rfl⟩)
             rintro r S ⟨a, b, ⟨rfl, rfl⟩, ha, hab⟩
             refine xmv ?_
             refine x_pure rfl rfl rfl (L_extract rfl rfl) ?_
             refine x_pure rfl rfl rfl (L_extract rfl rfl) ?_
             refine x_alloc rfl rfl rfl rfl za_29 ?_
             refine x_alloc rfl rfl rfl rfl za_29 ?_
             refine EOps_go rfl rfl (EOp_store rfl rfl rfl (by first | exact s_bp ty_29 | exact s_ep ty_29) ?_)
             refine EOps_go rfl rfl (EOp_store rfl rfl rfl (by first | exact s_bp ty_29 | exact s_ep ty_29) ?_)
             refine EOps_nil ?_
             refine E_seq ?_
             refine e_tidy_A135_0 [0, 2, 3, 4, 5, 6, 7, 8, 9, 10, 11, 12, 13, 14, 15, 16, 17, 18, 20, 34, 67, 68, 109, 114, 140] ?_
             refine E_drawT mixed ?_
             refine t_light 0 rfl rfl rfl (L_load rfl (by first | exact d_bp ty_29 | exact ld_rp ty_29 rfl | exact d_ep ty_29)) ?_
             refine t_light 1 rfl rfl rfl (L_load rfl (by first | exact d_bp ty_29 | exact ld_rp ty_29 rfl | exact d_ep ty_29)) ?_
             refine t_light 3 rfl rfl rfl (L_load rfl (by first | exact d_bp ty_29 | exact ld_rp ty_29 rfl | exact d_ep ty_29)) ?_
             refine t_light 4 rfl rfl rfl (L_load rfl (by first | exact d_bp ty_29 | exact ld_rp ty_29 rfl | exact d_ep ty_29)) ?_
             refine t_fresh 10 [(⟨none, 2, 148, 0⟩, _), (⟨none, 5, 151, 0⟩, _)] [(148, .any), (151, .any)] [2, 5] ⟨.one rfl rfl rfl (by decide) (f_call rfl rfl ca_48 (c_impl_AreAligned a b)), .one rfl rfl rfl (by decide) (f_call rfl rfl ca_49 (c_spec_AreAligned a b)), trivial⟩ ?_
             refine fk_cons ?_
             rintro r S ⟨rfl, rfl⟩
             refine fk_cons ?_
             rintro r S ⟨rfl, rfl⟩
             refine fk_nil ?_
             refine t_pure 6 rfl rfl rfl (L_binB rfl bo_4 rfl rfl rfl) ?_
             refine t_old 7 rfl rfl rfl (L_move rfl) ?_
             refine T_split 153 (b := _) rfl rfl (fun hg153 => ?_) (fun hg153 => ?_)
             ·refine t_light 8 rfl rfl rfl (L_load rfl (by first | exact d_bp ty_29 | exact ld_rp ty_29 rfl | exact d_ep ty_29)) ?_
              refine t_light 9 rfl rfl rfl (L_load rfl (by first | exact d_bp ty_29 | exact ld_rp ty_29 rfl | exact d_ep ty_29)) ?_
              refine t_light 11 rfl rfl rfl (L_load rfl (by first | exact d_bp ty_29 | exact ld_rp ty_29 rfl | exact d_ep ty_29)) ?_
              refine t_fresh 3 [(⟨none, 10, 156, 0⟩, _), (⟨none, 12, 158, 0⟩, _)] [(156, .any), (158, .any)] [10, 12] ⟨.one rfl rfl rfl (by decide) (f_call rfl rfl ca_48 (c_impl_AreAligned a a)), .one rfl rfl rfl (by decide) (f_call rfl rfl ca_50 (c_spec_IsMap a)), trivial⟩ ?_
              refine fk_cons ?_
              rintro r S ⟨rfl, rfl⟩
              refine fk_cons ?_
              rintro r S ⟨rfl, rfl⟩
              refine fk_nil ?_
              refine t_pure 13 rfl rfl rfl (L_binB rfl bo_4 rfl rfl rfl) ?_
              refine t_old 14 rfl rfl rfl (L_pick rfl rfl) ?_
              refine t_old 15 rfl rfl rfl (L_assign rfl) ?_
              refine T_done (by kernel_rfl) ?_
              refine E_ret ?_
              refine ⟨_, [], rfl, rfl, bool_eq ?_, rfl⟩
              simp [aligned]
             ·simp at hg153
        ·refine x_skip rfl rfl rfl ?_
         refine x_skip rfl rfl rfl ?_
         refine x_skip rfl rfl rfl ?_
         refine x_skip rfl rfl rfl ?_
         refine x_skip rfl rfl rfl ?_
         refine x_skip rfl rfl rfl ?_
         refine x_skip rfl rfl rfl ?_
         refine x_skip rfl rfl rfl ?_
         refine x_skip rfl rfl rfl ?_
         refine x_skip rfl rfl rfl ?_
         refine x_skip rfl rfl rfl ?_
         refine x_skip rfl rfl rfl ?_
         refine x_skip rfl rfl rfl ?_
         refine x_skip rfl rfl rfl ?_
         refine x_skip rfl rfl rfl ?_
         refine x_skip rfl rfl rfl ?_
         refine x_skip rfl rfl rfl ?_
         refine x_skip rfl rfl rfl ?_
         refine x_skip rfl rfl rfl ?_
         refine x_pure rfl rfl rfl (L_pick rfl rfl) ?_
         refine EOps_nil ?_
         refine E_cond rfl (fun hc109 => ?_) (fun hc109 => ?_)
         ·exact Bool.noConfusion (hc109 : false = true)
         ·refine E_skip ?_
          refine E_seq ?_
          refine E_region' (L := [0]) rfl ?_
          refine xas ?_
          refine EOps_nil ?_
          refine E_block ?_
          refine e_for_A135_1 (α := Nat) [0, 3, 4, 5, 6, 7, 8, 9, 10, 11, 12, 13, 14, 20, 34, 67, 68, 109] (fun k => [(15, .c (.sc (.int .i64 ((k : Int))))), (16, .any), (2, .any)]) (fun _ => _) (fun k => k ≤ M.tail.length) (fun k => M.tail.length - k) (0) ?_ (rfl) ⟨.inr rfl, .inl rfl, .inl rfl, trivial⟩ ?_
          ·simp
          rintro k hkn
          refine E_seq ?_
          refine E_seq ?_
          refine E_region' (L := [0, 1, 2, 3, 4]) rfl ?_
          refine xmv ?_
          refine x_pure rfl rfl rfl (l_field rfl fo_29_1) ?_
          refine x_light rfl rfl rfl (L_load rfl (by first | exact d_bp ty_24 | exact ld_rp ty_24 rfl | exact d_ep ty_24)) ?_
          refine x_pure rfl rfl rfl (l_len rfl sl_24) ?_
          refine x_pure rfl rfl rfl (L_bin rfl rfl rfl rfl) ?_
          refine EOps_nil ?_
          refine E_cond rfl (fun hc114 => ?_) (fun hc114 => ?_)
          ·have hk1 : k < M.tail.length := by simp at hc114; omega
           obtain ⟨j, hj, e1, e2⟩ := m4.2.2 k (by omega)
           obtain ⟨yr, hyr⟩ := at_lt (l := M.c.rows) (k := k) (by omega)
           obtain ⟨yt, hyt⟩ := at_lt (l := M.tail) hk1
           obtain ⟨xt, hxt1⟩ := at_lt (l := x.tail) hj
           rw [getD_of hyr] at e1
           rw [getD_of hyt, getD_of hxt1] at e2
           have hix : rowIx x.c.rows yr = j := rowIx_inj hmx.1 (by omega) e1.symm
           subst e2
           refine E_skip ?_
           refine E_seq ?_
           refine E_block ?_
           refine E_seq ?_
           refine e_tidy_A135_0 [0, 2, 3, 4, 5, 6, 7, 8, 9, 10, 11, 12, 13, 14, 15, 16, 20, 34, 67, 68, 109, 114, 140] ?_
           refine E_drawT mixed ?_
           refine t_old 0 rfl rfl rfl (l_field rfl fo_29_0) ?_
           refine t_light 1 rfl rfl rfl (L_load rfl (by first | exact d_bp ty_27 | exact ld_rp ty_27 rfl | exact d_ep ty_27)) ?_
           refine t_old 2 rfl rfl rfl (l_field rfl fo_29_0) ?_
           refine t_old 3 rfl rfl rfl (l_field rfl fo_27_1) ?_
           refine t_light 4 rfl rfl rfl (L_load rfl (by first | exact d_bp ty_24 | exact ld_rp ty_24 rfl | exact d_ep ty_24)) ?_
           refine t_old 5 rfl rfl rfl (L_move rfl) ?_
           refine t_old 6 rfl rfl rfl (L_index rfl rfl (by first | exact i_ro sl_24 ty_3 | exact i_sl sl_24 ty_3)) ?_
           refine t_light 7 rfl rfl rfl (L_load rfl (by first | exact d_bp ty_3 | exact ld_rp ty_3 rfl | exact d_ep ty_3)) ?_
           refine t_call 8 rfl rfl rfl rfl rfl ca_46 (c_spec_FindRow x.c yr (by omega)) ?_
           rintro r S ⟨rfl, rfl⟩
           rw [hix]
           refine t_old 9 rfl rfl rfl (L_assign rfl) ?_
           refine T_done (by kernel_rfl) ?_
           refine E_seq ?_
           refine E_drawT mixed ?_
           refine t_old 0 rfl rfl rfl (L_move rfl) ?_
           refine t_old 1 rfl rfl rfl (L_bin rfl rfl rfl rfl) ?_
           refine t_old 2 rfl rfl rfl (L_move rfl) ?_
           refine T_split 128 (b := _) rfl rfl (fun hg128 => ?_) (fun hg128 => ?_)
           ·exfalso; simp at hg128; omega
           ·refine t_old 3 rfl rfl rfl (l_field rfl fo_29_1) ?_
            refine t_light 4 rfl rfl rfl (L_load rfl (by first | exact d_bp ty_24 | exact ld_rp ty_24 rfl | exact d_ep ty_24)) ?_
            refine t_old 5 rfl rfl rfl (L_move rfl) ?_
            refine t_old 6 rfl rfl rfl (L_index rfl rfl (by first | exact i_ro sl_24 ty_3 | exact i_sl sl_24 ty_3)) ?_
            refine t_light 7 rfl rfl rfl (L_load rfl (by first | exact d_bp ty_3 | exact ld_rp ty_3 rfl | exact d_ep ty_3)) ?_
            refine t_old 8 rfl rfl rfl (l_field rfl fo_29_1) ?_
            refine t_light 9 rfl rfl rfl (L_load rfl (by first | exact d_bp ty_24 | exact ld_rp ty_24 rfl | exact d_ep ty_24)) ?_
            refine t_old 10 rfl rfl rfl (L_move rfl) ?_
            refine t_old 11 rfl rfl rfl (L_index rfl rfl (by first | exact i_ro sl_24 ty_3 | exact i_sl sl_24 ty_3)) ?_
            refine t_light 12 rfl rfl rfl (L_load rfl (by first | exact d_bp ty_3 | exact ld_rp ty_3 rfl | exact d_ep ty_3)) ?_
            refine t_old 13 rfl rfl rfl (L_bin rfl rfl rfl rfl) ?_
            refine t_old 14 rfl rfl rfl (L_pick rfl rfl) ?_
            refine T_done (by kernel_rfl) ?_
            refine E_cond rfl (fun hc140 => ?_) (fun hc140 => ?_)
            ·exfalso; simp at hc140
            ·refine E_skip ?_
             refine E_region' (L := [0, 1, 2]) rfl ?_
             refine xmv ?_
             refine x_pure rfl rfl rfl (by first | exact l_add rfl rfl rfl | exact L_bin rfl rfl rfl rfl) ?_
             refine xas ?_
             refine EOps_nil ?_
             refine ⟨k + 1, ?_, ?_, rfl, ⟨.inr rfl, .inl rfl, .inl rfl, trivial⟩, ⟨.inr rfl, .inr rfl, .inr rfl, .inr rfl, .inr rfl, .inr rfl, .inr rfl, .inr rfl, .inr rfl, .inr rfl, .inr rfl, .inr rfl, .inr rfl, .inr rfl, .inr rfl, .inr rfl, .inr rfl, .inr rfl, trivial⟩⟩
             ·first | omega | (dsimp only; omega) | (simp; omega)
             ·first | trivial | omega | (dsimp only; omega) | (simp; omega)
          ·refine E_exit ?_
           refine E_seq ?_
           refine e_tidy_A135_0 [0, 2, 3, 4, 5, 6, 7, 8, 9, 10, 11, 12, 13, 14, 15, 16, 20, 34, 67, 68, 109, 114, 140] ?_
           refine E_region' (L := [0, 1, 2, 3, 4, 5, 6, 7, 8]) rfl ?_
           refine xmv ?_
           refine x_call rfl rfl rfl rfl rfl ca_47 (c_spec_DrawAreAligned l hb) ?_ (hq := by rintro r S ⟨_, _, ⟨rfl, rfl⟩, _, _⟩; exact ⟨rfl, rfl⟩)
           rintro r S ⟨a, b, ⟨rfl, rfl⟩, ha, hab⟩
           refine xmv ?_
           refine x_pure rfl rfl rfl (L_extract rfl rfl) ?_
           refine x_pure rfl rfl rfl (L_extract rfl rfl) ?_
           refine x_alloc rfl rfl rfl rfl za_29 ?_
           refine x_alloc rfl rfl rfl rfl za_29 ?_
           refine EOps_go rfl rfl (EOp_store rfl rfl rfl (by first | exact s_bp ty_29 | exact s_ep ty_29) ?_)
           refine EOps_go rfl rfl (EOp_store rfl rfl rfl (by first | exact s_bp ty_29 | exact s_ep ty_29) ?_)
           refine EOps_nil ?_
           refine E_seq ?_
           refine e_tidy_A135_0 [0, 2, 3, 4, 5, 6, 7, 8, 9, 10, 11, 12, 13, 14, 15, 16, 17, 18, 20, 34, 67, 68, 109, 114, 140] ?_
           refine E_drawT mixed ?_
           refine t_light 0 rfl rfl rfl (L_load rfl (by first | exact d_bp ty_29 | exact ld_rp ty_29 rfl | exact d_ep ty_29)) ?_
           refine t_light 1 rfl rfl rfl (L_load rfl (by first | exact d_bp ty_29 | exact ld_rp ty_29 rfl | exact d_ep ty_29)) ?_
           refine t_light 3 rfl rfl rfl (L_load rfl (by first | exact d_bp ty_29 | exact ld_rp ty_29 rfl | exact d_ep ty_29)) ?_
           refine t_light 4 rfl rfl rfl (L_load rfl (by first | exact d_bp ty_29 | exact ld_rp ty_29 rfl | exact d_ep ty_29)) ?_
           refine t_fresh 10 [(⟨none, 2, 148, 0⟩, _), (⟨none, 5, 151, 0⟩, _)] [(148, .any), (151, .any)] [2, 5] ⟨.one rfl rfl rfl (by decide) (f_call rfl rfl ca_48 (c_impl_AreAligned a b)), .one rfl rfl rfl (by decide) (f_call rfl rfl ca_49 (c_spec_AreAligned a b)), trivial⟩ ?_
           refine fk_cons ?_
           rintro r S ⟨rfl, rfl⟩
           refine fk_cons ?_
           rintro r S ⟨rfl, rfl⟩
           refine fk_nil ?_
           refine t_pure 6 rfl rfl rfl (L_binB rfl bo_4 rfl rfl rfl) ?_
           refine t_old 7 rfl rfl rfl (L_move rfl) ?_
           refine T_split 153 (b := _) rfl rfl (fun hg153 => ?_) (fun hg153 => ?_)
           ·refine t_light 8 rfl rfl rfl (L_load rfl (by first | exact d_bp ty_29 | exact ld_rp ty_29 rfl | exact d_ep ty_29)) ?_
            refine t_light 9 rfl rfl rfl (L_load rfl (by first | exact d_bp ty_29 | exact ld_rp ty_29 rfl | exact d_ep ty_29)) ?_
            refine t_light 11 rfl rfl rfl (L_load rfl (by first | exact d_bp ty_29 | exact ld_rp ty_29 rfl | exact d_ep ty_29)) ?_
            refine t_fresh 3 [(⟨none, 10, 156, 0⟩, _), (⟨none, 12, 158, 0⟩, _)] [(156, .any), (158, .any)] [10, 12] ⟨.one rfl rfl rfl (by decide) (f_call rfl rfl ca_48 (c_impl_AreAligned a a)), .one rfl rfl rfl (by decide) (f_call rfl rfl ca_50 (c_spec_IsMap a)), trivial⟩ ?_
            refine fk_cons ?_
            rintro r S ⟨rfl, rfl⟩
            refine fk_cons ?_
            rintro r S ⟨rfl, rfl⟩
            refine fk_nil ?_
            refine t_pure 13 rfl rfl rfl (L_binB rfl bo_4 rfl rfl rfl) ?_
            refine t_old 14 rfl rfl rfl (L_pick rfl rfl) ?_
            refine t_old 15 rfl rfl rfl (L_assign rfl) ?_
            refine T_done (by kernel_rfl) ?_
            refine E_ret ?_
            refine ⟨_, [], rfl, rfl, bool_eq ?_, rfl⟩
            simp [aligned]
           ·simp at hg153
       ·refine x_skip rfl rfl rfl ?_
        refine x_skip rfl rfl rfl ?_
        refine x_skip rfl rfl rfl ?_
        refine x_skip rfl rfl rfl ?_
        refine x_pure rfl rfl rfl (L_pick rfl rfl) ?_
        refine xmv ?_
        refine x_skip rfl rfl rfl ?_
        refine x_skip rfl rfl rfl ?_
        refine x_skip rfl rfl rfl ?_
        refine x_skip rfl rfl rfl ?_
        refine x_skip rfl rfl rfl ?_
        refine x_skip rfl rfl rfl ?_
        refine x_skip rfl rfl rfl ?_
        refine x_skip rfl rfl rfl ?_
        refine x_skip rfl rfl rfl ?_
        refine x_skip rfl rfl rfl ?_
        refine x_skip rfl rfl rfl ?_
        refine x_skip rfl rfl rfl ?_
        refine x_skip rfl rfl rfl ?_
        refine x_skip rfl rfl rfl ?_
        refine x_skip rfl rfl rfl ?_
        refine x_skip rfl rfl rfl ?_
        refine x_skip rfl rfl rfl ?_
        refine x_skip rfl rfl rfl ?_
        refine x_skip rfl rfl rfl ?_
        refine x_pure rfl rfl rfl (L_pick rfl rfl) ?_
        refine EOps_nil ?_
        refine E_cond rfl (fun hc109 => ?_) (fun hc109 => ?_)
        ·exact Bool.noConfusion (hc109 : false = true)
        ·refine E_skip ?_
         refine E_seq ?_
         refine E_region' (L := [0]) rfl ?_
         refine xas ?_
         refine EOps_nil ?_
         refine E_block ?_
         refine e_for_A135_1 (α := Nat) [0, 3, 4, 5, 6, 7, 8, 9, 10, 11, 12, 13, 14, 20, 34, 67, 68, 109] (fun k => [(15, .c (.sc (.int .i64 ((k : Int))))), (16, .any), (2, .any)]) (fun _ => _) (fun k => k ≤ M.tail.length) (fun k => M.tail.length - k) (0) ?_ (rfl) ⟨.inr rfl, .inl rfl, .inl rfl, trivial⟩ ?_
         ·simp
         rintro k hkn
         refine E_seq ?_
         refine E_seq ?_
         refine E_region' (L := [0, 1, 2, 3, 4]) rfl ?_
         refine xmv ?_
         refine x_pure rfl rfl rfl (l_field rfl fo_29_1) ?_
         refine x_light rfl rfl rfl (L_load rfl (by first | exact d_bp ty_24 | exact ld_rp ty_24 rfl | exact d_ep ty_24)) ?_
         refine x_pure rfl rfl rfl (l_len rfl sl_24) ?_
         refine x_pure rfl rfl rfl (L_bin rfl rfl rfl rfl) ?_
         refine EOps_nil ?_
         refine E_cond rfl (fun hc114 => ?_) (fun hc114 => ?_)
         ·have hk1 : k < M.tail.length := by simp at hc114; omega
          obtain ⟨j, hj, e1, e2⟩ := m4.2.2 k (by omega)
          obtain ⟨yr, hyr⟩ := at_lt (l := M.c.rows) (k := k) (by omega)
          obtain ⟨yt, hyt⟩ := at_lt (l := M.tail) hk1
          obtain ⟨xt, hxt1⟩ := at_lt (l := x.tail) hj
          rw [getD_of hyr] at e1
          rw [getD_of hyt, getD_of hxt1] at e2
          have hix : rowIx x.c.rows yr = j := rowIx_inj hmx.1 (by omega) e1.symm
          subst e2
          refine E_skip ?_
          refine E_seq ?_
          refine E_block ?_
          refine E_seq ?_
          refine e_tidy_A135_0 [0, 2, 3, 4, 5, 6, 7, 8, 9, 10, 11, 12, 13, 14, 15, 16, 20, 34, 67, 68, 109, 114, 140] ?_
          refine E_drawT mixed ?_
          refine t_old 0 rfl rfl rfl (l_field rfl fo_29_0) ?_
          refine t_light 1 rfl rfl rfl (L_load rfl (by first | exact d_bp ty_27 | exact ld_rp ty_27 rfl | exact d_ep ty_27)) ?_
          refine t_old 2 rfl rfl rfl (l_field rfl fo_29_0) ?_
          refine t_old 3 rfl rfl rfl (l_field rfl fo_27_1) ?_
          refine t_light 4 rfl rfl rfl (L_load rfl (by first | exact d_bp ty_24 | exact ld_rp ty_24 rfl | exact d_ep ty_24)) ?_
          refine t_old 5 rfl rfl rfl (L_move rfl) ?_
          refine t_old 6 rfl rfl rfl (L_index rfl rfl (by first | exact i_ro sl_24 ty_3 | exact i_sl sl_24 ty_3)) ?_
          refine t_light 7 rfl rfl rfl (L_load rfl (by first | exact d_bp ty_3 | exact ld_rp ty_3 rfl | exact d_ep ty_3)) ?_
          refine t_call 8 rfl rfl rfl rfl rfl ca_46 (c_spec_FindRow x.c yr (by omega)) ?_
          rintro r S ⟨rfl, rfl⟩
          rw [hix]
          refine t_old 9 rfl rfl rfl (L_assign rfl) ?_
          refine T_done (by kernel_rfl) ?_
          refine E_seq ?_
          refine E_drawT mixed ?_
          refine t_old 0 rfl rfl rfl (L_move rfl) ?_
          refine t_old 1 rfl rfl rfl (L_bin rfl rfl rfl rfl) ?_
          refine t_old 2 rfl rfl rfl (L_move rfl) ?_
          refine T_split 128 (b := _) rfl rfl (fun hg128 => ?_) (fun hg128 => ?_)
          ·exfalso; simp at hg128; omega
          ·refine t_old 3 rfl rfl rfl (l_field rfl fo_29_1) ?_
           refine t_light 4 rfl rfl rfl (L_load rfl (by first | exact d_bp ty_24 | exact ld_rp ty_24 rfl | exact d_ep ty_24)) ?_
           refine t_old 5 rfl rfl rfl (L_move rfl) ?_
           refine t_old 6 rfl rfl rfl (L_index rfl rfl (by first | exact i_ro sl_24 ty_3 | exact i_sl sl_24 ty_3)) ?_
           refine t_light 7 rfl rfl rfl (L_load rfl (by first | exact d_bp ty_3 | exact ld_rp ty_3 rfl | exact d_ep ty_3)) ?_
           refine t_old 8 rfl rfl rfl (l_field rfl fo_29_1) ?_
           refine t_light 9 rfl rfl rfl (L_load rfl (by first | exact d_bp ty_24 | exact ld_rp ty_24 rfl | exact d_ep ty_24)) ?_
           refine t_old 10 rfl rfl rfl (L_move rfl) ?_
           refine t_old 11 rfl rfl rfl (L_index rfl rfl (by first | exact i_ro sl_24 ty_3 | exact i_sl sl_24 ty_3)) ?_
           refine t_light 12 rfl rfl rfl (L_load rfl (by first | exact d_bp ty_3 | exact ld_rp ty_3 rfl | exact d_ep ty_3)) ?_
           refine t_old 13 rfl rfl rfl (L_bin rfl rfl rfl rfl) ?_
           refine t_old 14 rfl rfl rfl (L_pick rfl rfl) ?_
           refine T_done (by kernel_rfl) ?_
           refine E_cond rfl (fun hc140 => ?_) (fun hc140 => ?_)
           ·exfalso; simp at hc140
           ·refine E_skip ?_
            refine E_region' (L := [0, 1, 2]) rfl ?_
            refine xmv ?_
            refine x_pure rfl rfl rfl (by first | exact l_add rfl rfl rfl | exact L_bin rfl rfl rfl rfl) ?_
            refine xas ?_
            refine EOps_nil ?_
            refine ⟨k + 1, ?_, ?_, rfl, ⟨.inr rfl, .inl rfl, .inl rfl, trivial⟩, ⟨.inr rfl, .inr rfl, .inr rfl, .inr rfl, .inr rfl, .inr rfl, .inr rfl, .inr rfl, .inr rfl, .inr rfl, .inr rfl, .inr rfl, .inr rfl, .inr rfl, .inr rfl, .inr rfl, .inr rfl, .inr rfl, trivial⟩⟩
            ·first | omega | (dsimp only; omega) | (simp; omega)
            ·first | trivial | omega | (dsimp only; omega) | (simp; omega)
         ·refine E_exit ?_
          refine E_seq ?_
          refine e_tidy_A135_0 [0, 2, 3, 4, 5, 6, 7, 8, 9, 10, 11, 12, 13, 14, 15, 16, 20, 34, 67, 68, 109, 114, 140] ?_
          refine E_region' (L := [0, 1, 2, 3, 4, 5, 6, 7, 8]) rfl ?_
          refine xmv ?_
          refine x_call rfl rfl rfl rfl rfl ca_47 (c_spec_DrawAreAligned l hb) ?_ (hq := by rintro r S ⟨_, _, ⟨rfl, rfl⟩, _, _⟩; exact ⟨rfl, rfl⟩)
          rintro r S ⟨a, b, ⟨rfl, rfl⟩, ha, hab⟩
          refine xmv ?_
          refine x_pure rfl rfl rfl (L_extract rfl rfl) ?_
          refine x_pure rfl rfl rfl (L_extract rfl rfl) ?_
          refine x_alloc rfl rfl rfl rfl za_29 ?_
          refine x_alloc rfl rfl rfl rfl za_29 ?_
          refine EOps_go rfl rfl (EOp_store rfl rfl rfl (by first | exact s_bp ty_29 | exact s_ep ty_29) ?_)
          refine EOps_go rfl rfl (EOp_store rfl rfl rfl (by first | exact s_bp ty_29 | exact s_ep ty_29) ?_)
          refine EOps_nil ?_
          refine E_seq ?_
          refine e_tidy_A135_0 [0, 2, 3, 4, 5, 6, 7, 8, 9, 10, 11, 12, 13, 14, 15, 16, 17, 18, 20, 34, 67, 68, 109, 114, 140] ?_
          refine E_drawT mixed ?_
          refine t_light 0 rfl rfl rfl (L_load rfl (by first | exact d_bp ty_29 | exact ld_rp ty_29 rfl | exact d_ep ty_29)) ?_
          refine t_light 1 rfl rfl rfl (L_load rfl (by first | exact d_bp ty_29 | exact ld_rp ty_29 rfl | exact d_ep ty_29)) ?_
          refine t_light 3 rfl rfl rfl (L_load rfl (by first | exact d_bp ty_29 | exact ld_rp ty_29 rfl | exact d_ep ty_29)) ?_
          refine t_light 4 rfl rfl rfl (L_load rfl (by first | exact d_bp ty_29 | exact ld_rp ty_29 rfl | exact d_ep ty_29)) ?_
          refine t_fresh 10 [(⟨none, 2, 148, 0⟩, _), (⟨none, 5, 151, 0⟩, _)] [(148, .any), (151, .any)] [2, 5] ⟨.one rfl rfl rfl (by decide) (f_call rfl rfl ca_48 (c_impl_AreAligned a b)), .one rfl rfl rfl (by decide) (f_call rfl rfl ca_49 (c_spec_AreAligned a b)), trivial⟩ ?_
          refine fk_cons ?_
          rintro r S ⟨rfl, rfl⟩
          refine fk_cons ?_
          rintro r S ⟨rfl, rfl⟩
          refine fk_nil ?_
          refine t_pure 6 rfl rfl rfl (L_binB rfl bo_4 rfl rfl rfl) ?_
          refine t_old 7 rfl rfl rfl (L_move rfl) ?_
          refine T_split 153 (b := _) rfl rfl (fun hg153 => ?_) (fun hg153 => ?_)
          ·refine t_light 8 rfl rfl rfl (L_load rfl (by first | exact d_bp ty_29 | exact ld_rp ty_29 rfl | exact d_ep ty_29)) ?_
           refine t_light 9 rfl rfl rfl (L_load rfl (by first | exact d_bp ty_29 | exact ld_rp ty_29 rfl | exact d_ep ty_29)) ?_
           refine t_light 11 rfl rfl rfl (L_load rfl (by first | exact d_bp ty_29 | exact ld_rp ty_29 rfl | exact d_ep ty_29)) ?_
           refine t_fresh 3 [(⟨none, 10, 156, 0⟩, _), (⟨none, 12, 158, 0⟩, _)] [(156, .any), (158, .any)] [10, 12] ⟨.one rfl rfl rfl (by decide) (f_call rfl rfl ca_48 (c_impl_AreAligned a a)), .one rfl rfl rfl (by decide) (f_call rfl rfl ca_50 (c_spec_IsMap a)), trivial⟩ ?_
           refine fk_cons ?_
           rintro r S ⟨rfl, rfl⟩
           refine fk_cons ?_
           rintro r S ⟨rfl, rfl⟩
           refine fk_nil ?_
           refine t_pure 13 rfl rfl rfl (L_binB rfl bo_4 rfl rfl rfl) ?_
           refine t_old 14 rfl rfl rfl (L_pick rfl rfl) ?_
           refine t_old 15 rfl rfl rfl (L_assign rfl) ?_
           refine T_done (by kernel_rfl) ?_
           refine E_ret ?_
           refine ⟨_, [], rfl, rfl, bool_eq ?_, rfl⟩
           simp [aligned]
          ·simp at hg153
      ·refine E_skip ?_
       refine E_seq ?_
       refine e_tidy_A135_0 [0, 2, 3, 4, 5, 6, 7, 8, 9, 10, 11, 12, 13, 20, 34, 67, 68] ?_
       refine E_region' (L := [0, 1, 2, 3, 4, 5, 6, 7, 8]) rfl ?_
       refine xmv ?_
       refine x_call rfl rfl rfl rfl rfl ca_47 (c_spec_DrawAreAligned l hb) ?_ (hq := by rintro r S ⟨_, _, ⟨rfl, rfl⟩, _, _⟩; exact ⟨rfl, rfl⟩)
       rintro r S ⟨a, b, ⟨rfl, rfl⟩, ha, hab⟩
       refine xmv ?_
       refine x_pure rfl rfl rfl (L_extract rfl rfl) ?_
       refine x_pure rfl rfl rfl (L_extract rfl rfl) ?_
       refine x_alloc rfl rfl rfl rfl za_29 ?_
       refine x_alloc rfl rfl rfl rfl za_29 ?_
       refine EOps_go rfl rfl (EOp_store rfl rfl rfl (by first | exact s_bp ty_29 | exact s_ep ty_29) ?_)
       refine EOps_go rfl rfl (EOp_store rfl rfl rfl (by first | exact s_bp ty_29 | exact s_ep ty_29) ?_)
       refine EOps_nil ?_
       refine E_seq ?_
       refine e_tidy_A135_0 [0, 2, 3, 4, 5, 6, 7, 8, 9, 10, 11, 12, 13, 17, 18, 20, 34, 67, 68] ?_
       refine E_drawT mixed ?_
       refine t_light 0 rfl rfl rfl (L_load rfl (by first | exact d_bp ty_29 | exact ld_rp ty_29 rfl | exact d_ep ty_29)) ?_
       refine t_light 1 rfl rfl rfl (L_load rfl (by first | exact d_bp ty_29 | exact ld_rp ty_29 rfl | exact d_ep ty_29)) ?_
       refine t_light 3 rfl rfl rfl (L_load rfl (by first | exact d_bp ty_29 | exact ld_rp ty_29 rfl | exact d_ep ty_29)) ?_
       refine t_light 4 rfl rfl rfl (L_load rfl (by first | exact d_bp ty_29 | exact ld_rp ty_29 rfl | exact d_ep ty_29)) ?_
       refine t_fresh 10 [(⟨none, 2, 148, 0⟩, _), (⟨none, 5, 151, 0⟩, _)] [(148, .any), (151, .any)] [2, 5] ⟨.one rfl rfl rfl (by decide) (f_call rfl rfl ca_48 (c_impl_AreAligned a b)), .one rfl rfl rfl (by decide) (f_call rfl rfl ca_49 (c_spec_AreAligned a b)), trivial⟩ ?_
       refine fk_cons ?_
       rintro r S ⟨rfl, rfl⟩
       refine fk_cons ?_
       rintro r S ⟨rfl, rfl⟩
       refine fk_nil ?_
       refine t_pure 6 rfl rfl rfl (L_binB rfl bo_4 rfl rfl rfl) ?_
       refine t_old 7 rfl rfl rfl (L_move rfl) ?_
       refine T_split 153 (b := _) rfl rfl (fun hg153 => ?_) (fun hg153 => ?_)
       ·refine t_light 8 rfl rfl rfl (L_load rfl (by first | exact d_bp ty_29 | exact ld_rp ty_29 rfl | exact d_ep ty_29)) ?_
        refine t_light 9 rfl rfl rfl (L_load rfl (by first | exact d_bp ty_29 | exact ld_rp ty_29 rfl | exact d_ep ty_29)) ?_
        refine t_light 11 rfl rfl rfl (L_load rfl (by first | exact d_bp ty_29 | exact ld_rp ty_29 rfl | exact d_ep ty_29)) ?_
        refine t_fresh 3 [(⟨none, 10, 156, 0⟩, _), (⟨none, 12, 158, 0⟩, _)] [(156, .any), (158, .any)] [10, 12] ⟨.one rfl rfl rfl (by decide) (f_call rfl rfl ca_48 (c_impl_AreAligned a a)), .one rfl rfl rfl (by decide) (f_call rfl rfl ca_50 (c_spec_IsMap a)), trivial⟩ ?_
        refine fk_cons ?_
        rintro r S ⟨rfl, rfl⟩
        refine fk_cons ?_
        rintro r S ⟨rfl, rfl⟩
        refine fk_nil ?_
        refine t_pure 13 rfl rfl rfl (L_binB rfl bo_4 rfl rfl rfl) ?_
        refine t_old 14 rfl rfl rfl (L_pick rfl rfl) ?_
        refine t_old 15 rfl rfl rfl (L_assign rfl) ?_
        refine T_done (by kernel_rfl) ?_
        refine E_ret ?_
        refine ⟨_, [], rfl, rfl, bool_eq ?_, rfl⟩
        simp [aligned]
       ·simp at hg153

end Go.Proofs.Ytcepgfcolmdnoaa.E
