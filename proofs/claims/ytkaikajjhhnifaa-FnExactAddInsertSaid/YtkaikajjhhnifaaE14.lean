/- Words of the session's own, fourteenth part: structs of whole numbers compared; a slice compared with nil; rows made longer; cuts. -/
import Derived.Test.YtkaikajjhhnifaaE13
import Derived.Laws.StructEq
import Derived.Laws.Cover3
namespace Go.Proofs.Ytkaikajjhhnifaa.E
open Go Go.RowKit
set_option linter.unusedVariables false
set_option linter.unusedSimpArgs false

/-! ### 1. Structs of whole numbers -/
def isI64 (P : Program) (t : TypeId) : Bool := match P.underlying t with | some (.int .i64) => tyIs P t == some (false, 1) | _ => false
theorem isI64_parts {P : Program} {t : TypeId} (h : isI64 P t = true) : P.underlying t = some (.int .i64) ∧ tyIs P t = some (false, 1) := by
  unfold isI64 at h
  split at h
  · rename_i hu; exact ⟨hu, by simpa using h⟩
  · cases h

def intFs (P : Program) : Nat → List Field → Bool
  | _, [] => true
  | m, f :: fs => f.name != "_" && f.offset == m && isI64 P f.type && intFs P (m + 1) fs

def intStruct (P : Program) (t : TypeId) : Bool := match P.underlying t with
  | some (.struct fs) => intFs P 0 fs.toList && !P.stoodInHeld t && !P.eqGuardType P.depth t
  | _ => false

theorem run_part_at {P : Program} {t : TypeId} (ht : tyIs P t = some (false, 1)) {xs : Array Value} {m : Nat} {v : Value} (h : xs[m]? = some v) (w : World) : (Go.part t xs m).run P w = .ok v w := by
  unfold Go.part
  simp only [Sem.run_bind, run_isAgg_ ht, Result.andThen_ok, Bool.false_eq_true, if_false, h, Sem.run_pure]

theorem run_eqFields_ints {P : Program} {d : Nat} {as bs : List Int} {xs ys : Array Value} (hx : xs.toList = as.map (Value.int .i64)) (hy : ys.toList = bs.map (Value.int .i64)) : ∀ (fs : List Field) (m : Nat), intFs P m fs = true → as.length = m + fs.length → bs.length = m + fs.length →
    ∀ w, (Op.eqFields (d + 1) xs ys fs).run P w = .ok (as.drop m == bs.drop m) w
  | [], m, _, h1, h2, w => by
    rw [List.drop_of_length_le (by simp at h1; omega), List.drop_of_length_le (by simp at h2; omega)]
    rfl
  | f :: fs, m, h, h1, h2, w => by
    simp only [intFs, Bool.and_eq_true, bne_iff_ne, ne_eq, beq_iff_eq] at h
    obtain ⟨⟨⟨g1, g2⟩, g3⟩, g4⟩ := h
    obtain ⟨k1, k2⟩ := isI64_parts g3
    simp only [List.length_cons] at h1 h2
    have ha : m < as.length := by omega
    have hb : m < bs.length := by omega
    have ea : xs[m]? = some (.int .i64 as[m]) := by rw [← Array.getElem?_toList, hx, List.getElem?_map, List.getElem?_eq_getElem ha]; rfl
    have eb : ys[m]? = some (.int .i64 bs[m]) := by rw [← Array.getElem?_toList, hy, List.getElem?_map, List.getElem?_eq_getElem hb]; rfl
    rw [List.drop_eq_getElem_cons ha, List.drop_eq_getElem_cons hb]
    simp only [Op.eqFields, g1, ne_eq, not_false_eq_true, if_true, Sem.run_bind, g2, run_part_at k2 ea, run_part_at k2 eb, Result.andThen_ok, run_equalIn_int w d f.type .i64 .i64 _ _ k1]
    by_cases e : as[m] = bs[m]
    · simp only [e, beq_self_eq_true, Bool.not_true, Bool.false_eq_true, if_false]
      rw [run_eqFields_ints hx hy fs (m + 1) g4 (by omega) (by omega) w, List.cons_beq_cons]
      simp only [beq_self_eq_true, Bool.true_and]
    · have e2 : (as[m] == bs[m]) = false := by simpa using e
      rw [List.cons_beq_cons, e2]
      simp only [Bool.not_false, if_true, Sem.run_pure, Bool.false_and]

def intsOf : List AC → Option (List Int)
  | [] => some []
  | .sc (.int .i64 n) :: l => (intsOf l).map (n :: ·)
  | _ => none

theorem intsOf_rel {W : Wit} {R : List Res} {w : World} {cs : List AC} {vs : List Value} (h : AR W R w cs vs) : ∀ {as : List Int}, intsOf cs = some as → vs = as.map (Value.int .i64) := by
  induction h with
  | nil =>
    intro as h
    obtain rfl : [] = as := by simpa [intsOf] using h
    rfl
  | @sc v cs vs h1 _ ih =>
    intro as h
    unfold intsOf at h
    split at h
    · rename_i e; cases e
    · rename_i n l e
      obtain ⟨rfl, rfl⟩ : v = .int .i64 n ∧ cs = l := by cases e; exact ⟨rfl, rfl⟩
      cases hl : intsOf cs with
      | none => rw [hl] at h; cases h
      | some q =>
        rw [hl] at h
        obtain rfl : n :: q = as := by simpa using h
        rw [ih hl]; rfl
    · cases h
  | any _ _ _ => intro as h; simp [intsOf] at h
  | ro _ _ _ => intro as h; simp [intsOf] at h
  | sl _ _ _ _ _ => intro as h; simp [intsOf] at h
  | bp _ _ _ _ _ => intro as h; simp [intsOf] at h
  | ep _ _ _ _ _ => intro as h; simp [intsOf] at h
  | rp _ _ _ _ _ _ _ _ _ => intro as h; simp [intsOf] at h
  | fn _ _ _ _ => intro as h; simp [intsOf] at h

def binA : BinOp → List Int → List Int → Option Value
  | .eql, a, b => some (.bool (a == b))
  | .neq, a, b => some (.bool (!(a == b)))
  | _, _, _ => none

section
variable {P : Program} {N : Nat} {s : Slots} {R : List Res} {K : Slots → List Res → Prop}

theorem L_binA {o : Oper} {t t' : Nat} {op : BinOp} {x y : Operand} {xs ys : List AC} {as bs : List Int} {fs : Nat} {v : Value} (ho : o.op = .binOp op t x y t') (ht : intStruct P t = true) (hn : (P.fieldsOf t).size = fs) (hx : ev s x = .agg xs) (hy : ev s y = .agg ys)
    (ha : intsOf xs = some as) (hb : intsOf ys = some bs) (hl : as.length = fs ∧ bs.length = fs) (hv : binA op as bs = some v) : Pure P o s R (.c (.sc v)) := fun N a w W hn' => by
  have h1 := hn'.ev x
  have h2 := hn'.ev y
  rw [hx] at h1
  rw [hy] at h2
  obtain ⟨us, e1, r1⟩ := h1
  obtain ⟨zs, e2, r2⟩ := h2
  have q1 := intsOf_rel r1 ha
  have q2 := intsOf_rel r2 hb
  unfold intStruct at ht
  split at ht
  · rename_i fl hu
    simp only [Bool.and_eq_true, Bool.not_eq_true'] at ht
    obtain ⟨⟨g1, g2⟩, g3⟩ := ht
    have hf : P.fieldsOf t = fl := by simp [Program.fieldsOf, hu]
    have hsz : fl.toList.length = fs := by rw [← hn, hf]; simp
    have key : ∀ w', (Op.equalIn 10000 t (.agg us.toArray) (.agg zs.toArray)).run P w' = .ok (as == bs) w' := fun w' => by
      rw [run_equalIn_struct w' 9999 t _ _ (by rw [hf]; exact hu) g2, hf]
      have := run_eqFields_ints (P := P) (d := 9998) (as := as) (bs := bs) (xs := us.toArray) (ys := zs.toArray) (by simpa using q1) (by simpa using q2) fl.toList 0 g1 (by omega) (by omega) w'
      simpa using this
    refine ⟨v, AR.sc1 (v := v) (by unfold binA at hv; split at hv <;> first | (cases hv; done) | (obtain rfl := Option.some.inj hv; rfl)), fun w' => ?_⟩
    simp only [execOp, ho, e1, e2, Sem.run_bind, run_eqGuard_agg w' op t x y _ _ g3, Result.andThen_ok]
    unfold binA at hv
    split at hv
    · obtain rfl := Option.some.inj hv
      rw [run_eql_struct, key w']; rfl
    · obtain rfl := Option.some.inj hv
      rw [run_neq_struct, key w']; rfl
    · cases hv
  · cases ht

/-- What is no longer needed is let go, what is held is told shortly. -/
theorem E_tidy {c : Code} {Q : Exit → Slots → List Res → Prop} (keep : List Nat) {base : Slots} {R' : List Res} (hb : keepOf s keep = base) (hR : R = R') (h : ECode P N c base R' Q) : ECode P N c s R Q := by
  subst hR
  subst hb
  exact ECode.sub (keep_sub s keep).sub h

/-! ### 2. A slice compared with nil: either answer; if it is nil, there is nothing in it -/
theorem H_nil {o : Oper} {d t t' e : Nat} {x : Operand} {rows : List (List T)} (ho : o.op = .binOp .eql t x (.const (.slice none 0 0)) t') (hd : o.dst = some d) (hN : d < N) (ht : isSlice P t = some e) (hx : ev s x = .c (.ro rows))
    (h : ∀ b : Bool, (b = true → rows = []) → K ((d, .c (.sc (.bool b))) :: s) R) : Heavy P N o s R K := by
  intro Q a w W hn
  have hv := hn.ev x
  rw [hx] at hv
  have : ∃ ad n c, a.eval x = .slice ad n c ∧ (ad = none → rows = []) := by
    cases hv with
    | ro h1 _ =>
      generalize hq : a.eval x = q at h1
      cases h1 with
      | @sl rows a' c inner ts vs k g1 g2 g3 g4 g5 g6 =>
        refine ⟨a', rows.length, c, rfl, fun e => ?_⟩
        rcases Nat.eq_zero_or_pos rows.length with h0 | h0
        · exact List.length_eq_zero_iff.1 h0
        · obtain ⟨b, o', e', _⟩ := g4 h0; rw [e] at e'; cases e'
  obtain ⟨ad, n, c, e1, e2⟩ := this
  unfold Oper.wp
  have hr : (execOp a.eval o).run P w = .ok (.value (.bool ad.isNone)) w := by
    have hb : (binOp .eql t (.slice ad n c) (.slice none 0 0)).run P w = .ok (.bool ad.isNone) w := by
      simp only [binOp]
      simp [run_equal_slice_nil w t e ad n c (isSlice_of ht)]
    have hg : (eqGuard .eql t x (.const (.slice none 0 0)) (.slice ad n c) (.slice none 0 0)).run P w = .ok () w := by simp [eqGuard]
    have hc : a.eval (.const (.slice none 0 0)) = .slice none 0 0 := rfl
    simp only [execOp, ho, e1, hc, Sem.run_bind, hg, hb, Result.andThen_ok]
    rfl
  rw [hr, Oper.upon_value, hd]
  exact ⟨Below.refl _ _, _, R, W, h ad.isNone (fun hb => e2 (by cases ad <;> simp_all)), hn.put hN (AR.sc1 rfl), .refl ..⟩
end
end Go.Proofs.Ytkaikajjhhnifaa.E
