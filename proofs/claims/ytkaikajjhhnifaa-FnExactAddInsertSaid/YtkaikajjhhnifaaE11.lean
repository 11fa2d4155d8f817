/- Words of the session's own, eleventh part: loops over named slots, splits, truth values, texts, structs, closures, callees that leave all as it stands. -/
import Derived.Test.YtkaikajjhhnifaaE10
namespace Go.Proofs.Ytkaikajjhhnifaa.E
open Go Go.RowKit
set_option linter.unusedVariables false
set_option linter.unusedSimpArgs false

/-! ### 1. Loops -/
def keepOf (s : Slots) : List Nat → Slots
  | [] => []
  | d :: l => (d, E.get s d) :: keepOf s l

def chk (s : Slots) : Slots → Prop
  | [] => True
  | (d, v) :: L => (v = .any ∨ E.get s d = v) ∧ chk s L

def Sub (L s : Slots) : Prop := ∀ d, E.get L d = .any ∨ E.get s d = E.get L d

theorem chk.sub {s : Slots} : ∀ {L : Slots}, chk s L → Sub L s
  | [], _ => fun d => .inl rfl
  | (e, v) :: L, h => fun d => by
    simp only [E.get]
    split
    · rename_i he; subst he; exact h.1
    · exact chk.sub h.2 d

theorem Sub.app {s : Slots} : ∀ {L M : Slots}, chk s L → Sub M s → Sub (L ++ M) s
  | [], M, _, k => k
  | (e, v) :: L, M, h, k => fun d => by
    simp only [List.cons_append, E.get]
    split
    · rename_i he; subst he; exact h.1
    · exact Sub.app h.2 k d

theorem keep_sub (s : Slots) : ∀ l, chk s (keepOf s l)
  | [] => trivial
  | d :: l => ⟨.inr rfl, keep_sub s l⟩

theorem Now.sub {N : Nat} {L s : Slots} {R : List Res} {a : Act} {w : World} {W : Wit} (h : Now N s R a w W) (hs : Sub L s) : Now N L R a w W :=
  ⟨h.size, h.defers, fun t => by
    rcases hs t with e | e
    · rw [e]; exact AVR.any ..
    · rw [← e]; exact h.val t, h.sep⟩

section
variable {P : Program} {N : Nat} {s : Slots} {R : List Res} {Q : Exit → Slots → List Res → Prop}

theorem ECode.sub {c : Code} {L : Slots} (hs : Sub L s) (h : ECode P N c L R Q) : ECode P N c s R Q :=
  fun a w W hn => h a w W (hn.sub hs)

/-- A loop: x says where it stands; what it turns is told by mods, what it keeps stands in base. -/
theorem E_for {α : Type} {c : Code} (keep : List Nat) (mods : α → Slots) (Rf : α → List Res) (I : α → Prop) (m : α → Nat) (x0 : α) {base : Slots} (hb : keepOf s keep = base) (h0 : I x0) (hR : R = Rf x0) (h1 : chk s (mods x0))
    (round : ∀ x, I x → ECode P N c (mods x ++ base) (Rf x) (EThen (fun s' R' => ∃ y, m y < m x ∧ I y ∧ R' = Rf y ∧ chk s' (mods y) ∧ chk s' base) Q)) : ECode P N (.loop c) s R Q := by
  refine E_loop (fun n s' R' => ∃ x, n = m x ∧ I x ∧ R' = Rf x ∧ chk s' (mods x) ∧ chk s' base) (m x0) ⟨x0, rfl, h0, hR, h1, by rw [← hb]; exact keep_sub s keep⟩ ?_
  rintro n s' R' ⟨x, rfl, hI, rfl, k1, k2⟩
  refine ECode.sub (Sub.app k1 k2.sub) ((round x hI).mono ?_)
  intro e s2 R2 h
  cases e with
  | normal =>
    obtain ⟨y, g1, g2⟩ := h
    exact ⟨m y, g1, y, rfl, g2⟩
  | exit id => exact h
  | goto l => exact h
  | ret => exact h
  | panic ch => exact h
  | outgrown => exact h

/-- Two roads meet. -/
theorem E_seqJ {α : Type} {x y : Code} (keep : List Nat) (mods : α → Slots) (Rf : α → List Res) (I : α → Prop) {base : Slots} (hb : keepOf s keep = base)
    (hx : ECode P N x s R (EThen (fun s' R' => ∃ z, I z ∧ R' = Rf z ∧ chk s' (mods z) ∧ chk s' base) Q)) (hy : ∀ z, I z → ECode P N y (mods z ++ base) (Rf z) Q) : ECode P N (.seq x y) s R Q := by
  refine E_seq (hx.mono ?_)
  intro e s2 R2 h
  cases e with
  | normal =>
    obtain ⟨z, g1, rfl, g3, g4⟩ := h
    exact ECode.sub (Sub.app g3 g4.sub) (hy z g1)
  | exit id => exact h
  | goto l => exact h
  | ret => exact h
  | panic ch => exact h
  | outgrown => exact h

/-- A truth value is looked at. -/
theorem EOps_split {ops : Array Oper} {L : List Nat} {K : Slots → List Res → Prop} (d : Nat) {b : Bool} (hd : E.get s d = .c (.sc (.bool b))) (h1 : b = true → EOps P N ops L ((d, .c (.sc (.bool true))) :: s) R K) (h2 : b = false → EOps P N ops L ((d, .c (.sc (.bool false))) :: s) R K) : EOps P N ops L s R K := by
  intro Q a w W hn
  refine (?_ : EOps P N ops L ((d, .c (.sc (.bool b))) :: s) R K) Q a w W ⟨hn.size, hn.defers, fun t => ?_, hn.sep⟩
  · cases b
    · exact h2 rfl
    · exact h1 rfl
  · simp only [E.get]
    split
    · rename_i e; subst e; rw [← hd]; exact hn.val d
    · exact hn.val t

theorem EAny_split {ops : Array Oper} {fr : Bool} {fuel : Nat} {listed : Array Bool} {K : Slots → List Res → Prop} (d : Nat) {b : Bool} (hd : E.get s d = .c (.sc (.bool b))) (h1 : b = true → EAny P N ops fr fuel listed ((d, .c (.sc (.bool true))) :: s) R K) (h2 : b = false → EAny P N ops fr fuel listed ((d, .c (.sc (.bool false))) :: s) R K) : EAny P N ops fr fuel listed s R K := by
  intro G w1 a w W hn
  refine (?_ : EAny P N ops fr fuel listed ((d, .c (.sc (.bool b))) :: s) R K) G w1 a w W ⟨hn.size, hn.defers, fun t => ?_, hn.sep⟩
  · cases b
    · exact h2 rfl
    · exact h1 rfl
  · simp only [E.get]
    split
    · rename_i e; subst e; rw [← hd]; exact hn.val d
    · exact hn.val t
end

/-! ### 2. More operations on scalars -/
theorem run_underlying_ {P : Program} {t : TypeId} {d : TypeDesc} (h : P.underlying t = some d) (w : World) : (underlying t).run P w = .ok d w := by
  simp [underlying, h]

theorem run_equal_bool {P : Program} {t : TypeId} (ht : P.underlying t = some .bool) (a b : Bool) (w : World) : (Op.equal t (.bool a) (.bool b)).run P w = .ok (a == b) w := by
  show (Op.equalIn (9999 + 1) t (.bool a) (.bool b)).run P w = _
  rw [Op.equalIn]
  simp only [Sem.run_bind, run_underlying_ ht, Result.andThen_ok]
  rfl

/-- Two truth values compared. -/
def binB : BinOp → Bool → Bool → Option Value
  | .eql, a, b => some (.bool (a == b))
  | .neq, a, b => some (.bool (a != b))
  | _, _, _ => none

/-- Two texts. -/
def binS : BinOp → ByteArray → ByteArray → Option Value
  | .eql, a, b => some (.bool (a.toList == b.toList))
  | .neq, a, b => some (.bool (!(a.toList == b.toList)))
  | .lss, a, b => some (.bool (Op.bytesLess a.toList b.toList))
  | .gtr, a, b => some (.bool (!(Op.bytesLess a.toList b.toList || a.toList == b.toList)))
  | .leq, a, b => some (.bool (Op.bytesLess a.toList b.toList || a.toList == b.toList))
  | .geq, a, b => some (.bool (!Op.bytesLess a.toList b.toList))
  | .add, a, b => if a.size + b.size ≤ 9223372036854775807 then some (.string (a ++ b)) else none
  | _, _, _ => none

section
variable {P : Program} {N : Nat} {s : Slots} {R : List Res} {K : Slots → List Res → Prop}

theorem L_binB {o : Oper} {t t' : Nat} {op : BinOp} {x y : Operand} {a b : Bool} {v : Value} (ho : o.op = .binOp op t x y t') (ht : P.underlying t = some .bool) (hx : ev s x = .c (.sc (.bool a))) (hy : ev s y = .c (.sc (.bool b))) (hv : binB op a b = some v) : Pure P o s R (.c (.sc v)) := fun N a' w W hn =>
  ⟨v, AR.sc1 (v := v) (by unfold binB at hv; split at hv <;> first | (cases hv; done) | (obtain rfl := Option.some.inj hv; rfl)), fun w' => by
    simp only [execOp, ho, hn.sc hx, hn.sc hy]
    unfold binB at hv
    split at hv
    · obtain rfl := Option.some.inj hv
      simp only [eqGuard, binOp, Sem.run_bind, run_equal_bool ht, Result.andThen_ok]
      rfl
    · obtain rfl := Option.some.inj hv
      simp only [eqGuard, binOp, Sem.run_bind, run_equal_bool ht, Result.andThen_ok]
      rfl
    · cases hv⟩

theorem L_binS {o : Oper} {t t' : Nat} {op : BinOp} {x y : Operand} {a b : ByteArray} {v : Value} (ho : o.op = .binOp op t x y t') (hx : ev s x = .c (.sc (.string a))) (hy : ev s y = .c (.sc (.string b))) (hv : binS op a b = some v) : Pure P o s R (.c (.sc v)) := fun N a' w W hn =>
  ⟨v, AR.sc1 (v := v) (by unfold binS at hv; split at hv <;> first | (cases hv; done) | (obtain rfl := Option.some.inj hv; rfl) | (split at hv <;> first | (cases hv; done) | (obtain rfl := Option.some.inj hv; rfl))), fun w' => by
    simp only [execOp, ho, hn.sc hx, hn.sc hy]
    unfold binS at hv
    split at hv
    case h_7 =>
      split at hv
      · rename_i hl
        obtain rfl := Option.some.inj hv
        have : ¬ ((a.size + b.size : Nat) : Int) > IntKind.i64.max := by simp [IntKind.max, IntKind.bits, IntKind.signed]; omega
        simp [eqGuard, binOp, Op.stringOp, this]
        omega
      · cases hv
    all_goals first | (cases hv; done) | (obtain rfl := Option.some.inj hv; simp [eqGuard, binOp, Op.stringOp])⟩

/-! ### 3. Structs and arrays as wholes -/
theorem foldl_splice (vs : List Value) : ∀ (arr : Array Value) (o j : Nat), o + j + vs.length ≤ arr.size → ((vs.zipIdx j).foldl (fun cs (p : Value × Nat) => cs.setIfInBounds (o + p.2) p.1) arr).toList = E.splice arr.toList (o + j) vs := by
  induction vs with
  | nil => intro arr o j _; simp [splice_nil]
  | cons v vs ih =>
    intro arr o j hl
    simp only [List.length_cons] at hl
    rw [List.zipIdx_cons, List.foldl_cons, ih _ _ _ (by simp; omega)]
    simp only [Array.toList_setIfInBounds]
    rw [show o + (j + 1) = o + j + 1 by omega, splice_cons _ _ _ _ (by simp; omega)]

/-- A struct type's zero cells, and where its fields lie; an array's. -/
def bld (P : Program) (t : TypeId) : Option (List Value × List (Nat × Nat)) :=
  match P.underlying t, (P.info? t).bind (·.zero) with
  | some (.struct fs), some z => if z.cells.toList.all (·.oneCell') then (fs.toList.mapM fun f => (tyIs P f.type).map fun x => (f.offset, x.2)).map fun pl => (z.cells.toList, pl) else none
  | some (.array n e), some z => if z.cells.toList.all (·.oneCell') then (tyIs P e).map fun x => (z.cells.toList, (List.range n).map fun i => (i * x.2, x.2)) else none
  | _, _ => none

def fillA (pl : List (Nat × Nat)) : List AC → List (Nat × List AC) → Option (List AC)
  | cs, [] => some cs
  | cs, (i, ys) :: rest => match pl[i]? with
    | some (off, n) => if ys.length = n ∧ off + n ≤ cs.length then fillA pl (E.splice cs off ys) rest else none
    | none => none

def partsOf (s : Slots) : List (Nat × Operand) → Option (List (Nat × List AC))
  | [] => some []
  | (i, x) :: l => match cellsOf (ev s x), partsOf s l with
    | some ys, some r => some ((i, ys) :: r)
    | _, _ => none

theorem fill_run {a : Act} {w : World} {W : Wit} {pl : List (Nat × Nat)} {place : Nat → Option (Nat × Nat)} (hpl : ∀ i x, pl[i]? = some x → place i = some x) (hn : Now N s R a w W) : ∀ {l : List (Nat × Operand)} {ps : List (Nat × List AC)} {cs ys : List AC} {arr : Array Value}, partsOf s l = some ps → fillA pl cs ps = some ys → AR W R w cs arr.toList →
    ∃ out, Instr.fill place arr (l.map fun p => (p.1, a.eval p.2)) = some out ∧ AR W R w ys out.toList
  | [], ps, cs, ys, arr, hp, hf, h => by
    obtain rfl : [] = ps := by simpa [partsOf] using hp
    obtain rfl : cs = ys := by simpa [fillA] using hf
    exact ⟨arr, rfl, h⟩
  | (i, x) :: l, ps, cs, ys, arr, hp, hf, h => by
    unfold partsOf at hp
    split at hp
    · rename_i zs r h1 h2
      obtain rfl := Option.some.inj hp
      unfold fillA at hf
      split at hf
      · rename_i off n hi
        split at hf
        · rename_i hc
          have hz := cells_rel (hn.ev x) h1
          have hl1 := hz.length
          have hl2 := h.length
          simp only [Array.length_toList] at hl1 hl2
          obtain ⟨out, k1, k2⟩ := fill_run hpl hn h2 hf (arr := (((a.eval x).cells.zipIdx).foldl (fun cs (p : Value × Nat) => cs.setIfInBounds (off + p.2) p.1) arr)) (by
            have := foldl_splice (a.eval x).cells.toList arr off 0 (by simp only [Array.length_toList]; omega)
            have e : ((a.eval x).cells.zipIdx.foldl (fun cs (p : Value × Nat) => cs.setIfInBounds (off + p.2) p.1) arr) = ((a.eval x).cells.toList.zipIdx 0).foldl (fun cs (p : Value × Nat) => cs.setIfInBounds (off + p.2) p.1) arr := by
              rw [← Array.foldl_toList, Array.toList_zipIdx]
            rw [e, this, Nat.add_zero]
            exact h.splice hz off)
          refine ⟨out, ?_, k2⟩
          simp only [List.map_cons, Instr.fill, hpl i _ hi]
          rw [if_neg (by simp; omega)]
          exact k1
        · cases hf
      · cases hf
    · cases hp

theorem mapM_places {fs : List Field} {pl : List (Nat × Nat)} (h : (fs.mapM fun f => (tyIs P f.type).map fun x => (f.offset, x.2)) = some pl) (w : World) : (fs.mapM fun f => (do pure (f.offset, ← sizeOf f.type) : Sem (Nat × Nat))).run P w = .ok pl w := by
  induction fs generalizing pl with
  | nil =>
    obtain rfl : [] = pl := by simpa using h
    simp
  | cons f fs ih =>
    rw [List.mapM_cons] at h
    cases ht : tyIs P f.type with
    | none => rw [ht] at h; cases h
    | some x =>
      rw [ht] at h
      cases hm : (fs.mapM fun f => (tyIs P f.type).map fun x => (f.offset, x.2)) with
      | none => rw [hm] at h; cases h
      | some q =>
        rw [hm] at h
        obtain rfl : (f.offset, x.2) :: q = pl := by simpa using h
        rw [List.mapM_cons]
        simp only [Sem.run_bind, run_sizeOf_ (agg := x.1) (n := x.2) (by rw [ht]), Result.andThen_ok, Sem.run_pure, ih hm]

theorem L_build {o : Oper} {t : TypeId} {parts : Array (Nat × Operand)} {zs : List Value} {pl : List (Nat × Nat)} {ps : List (Nat × List AC)} {ys : List AC} (ho : o.op = .build t parts) (hb : bld P t = some (zs, pl)) (hp : partsOf s parts.toList = some ps) (hf : fillA pl (zs.map .sc) ps = some ys) : Pure P o s R (.agg ys) := fun N a w W hn => by
  unfold bld at hb
  split at hb
  · rename_i fs z hu hz
    split at hb
    · rename_i hall
      cases hm : (fs.toList.mapM fun f => (tyIs P f.type).map fun x => (f.offset, x.2)) with
      | none => rw [hm] at hb; cases hb
      | some q =>
        rw [hm] at hb
        obtain ⟨rfl, rfl⟩ : z.cells.toList = zs ∧ q = pl := by simpa using hb
        obtain ⟨out, k1, k2⟩ := fill_run (place := (q.toArray[·]?)) (fun i x hx => by simpa using hx) hn hp hf (AR.scs hall)
        refine ⟨.agg out, ⟨out.toList, rfl, k2⟩, fun w' => ?_⟩
        have hz' : (zeroValue t).run P w' = .ok z w' := by
          cases hi : P.info? t with
          | none => rw [hi] at hz; cases hz
          | some i => rw [hi] at hz; simp only [Option.bind_some] at hz; simp [zeroValue, typeInfo, hi, hz]
        have hpl : (fs.mapM fun f => (do pure (f.offset, ← sizeOf f.type) : Sem (Nat × Nat))).run P w' = .ok q.toArray w' := by
          rw [Array.mapM_eq_mapM_toList]
          simp only [Sem.run_map]
          exact congrArg (fun z => Result.andThen z (fun (l : List (Nat × Nat)) w' => Result.ok l.toArray w')) (mapM_places hm w')
        simp only [execOp, ho, Instr.build, Sem.run_bind, hz', Result.andThen_ok, run_underlying_ hu, hpl]
        have e : (parts.map fun p => (p.1, a.eval p.2)).toList = parts.toList.map fun p => (p.1, a.eval p.2) := by simp
        rw [e, k1]
        rfl
    · cases hb
  · rename_i n e z hu hz
    split at hb
    · rename_i hall
      cases hm : tyIs P e with
      | none => rw [hm] at hb; cases hb
      | some q =>
        rw [hm] at hb
        obtain ⟨rfl, rfl⟩ : z.cells.toList = zs ∧ (List.range n).map (fun i => (i * q.2, q.2)) = pl := by simpa using hb
        obtain ⟨out, k1, k2⟩ := fill_run (place := fun i => some (i * q.2, q.2)) (fun i x hx => by
          rw [List.getElem?_map] at hx
          cases hr : (List.range n)[i]? with
          | none => rw [hr] at hx; cases hx
          | some j =>
            rw [hr] at hx
            obtain rfl : i = j := by
              have := List.getElem?_eq_some_iff.1 hr
              obtain ⟨h1, h2⟩ := this
              simpa using h2
            exact hx) hn hp hf (AR.scs hall)
        refine ⟨.agg out, ⟨out.toList, rfl, k2⟩, fun w' => ?_⟩
        have hz' : (zeroValue t).run P w' = .ok z w' := by
          cases hi : P.info? t with
          | none => rw [hi] at hz; cases hz
          | some i => rw [hi] at hz; simp only [Option.bind_some] at hz; simp [zeroValue, typeInfo, hi, hz]
        simp only [execOp, ho, Instr.build, Sem.run_bind, hz', Result.andThen_ok, run_underlying_ hu, run_sizeOf_ (agg := q.1) (n := q.2) (by rw [hm])]
        have e : (parts.map fun p => (p.1, a.eval p.2)).toList = parts.toList.map fun p => (p.1, a.eval p.2) := by simp
        rw [e, k1]
        rfl
    · cases hb
  · cases hb

/-! ### 4. Closures -/
def capsOf (s : Slots) : List Operand → Option (List AC)
  | [] => some []
  | x :: l => match ev s x, capsOf s l with
    | .c y, some r => some (y :: r)
    | _, _ => none

theorem caps_rel {a : Act} {w : World} {W : Wit} (hn : Now N s R a w W) : ∀ {l : List Operand} {cs : List AC}, capsOf s l = some cs → AR W R w cs (l.map a.eval)
  | [], cs, h => by
    obtain rfl : [] = cs := by simpa [capsOf] using h
    exact .nil
  | x :: l, cs, h => by
    unfold capsOf at h
    split at h
    · rename_i y r h1 h2
      obtain rfl := Option.some.inj h
      have hx := hn.ev x
      rw [h1] at hx
      exact AR.append (cs := [y]) (vs := [a.eval x]) hx (caps_rel hn h2)
    · cases h

theorem L_func {o : Oper} {f : FuncId} {caps : Array Operand} {cs : List AC} (ho : o.op = .makeFunc (.func f) #[] caps) (hc : capsOf s caps.toList = some cs) : Pure P o s R (.c (.fn f cs)) := fun N a w W hn => by
  refine ⟨.func (.func f) #[] (caps.map a.eval), ?_, fun w' => ?_⟩
  · have := AR.fn (f := f) (caps_rel hn hc) (AR.nil (W := W) (R := R) (w := w))
    have e : (caps.toList.map a.eval).toArray = caps.map a.eval := by apply Array.ext'; simp
    rw [e] at this
    exact this
  · simp [execOp, ho, Instr.makeFunc]
end

/-! ### 5. A function that leaves the resources as they stand -/
def RetS (P : Program) (rs : List ResultVar) (R0 : List Res) (Q : AV → Prop) : Exit → Slots → List Res → Prop
  | .normal, s, R => ∃ y, resv P R s rs = some y ∧ R = R0 ∧ Q y
  | .ret, s, R => ∃ y, resv P R s rs = some y ∧ R = R0 ∧ Q y
  | _, _, _ => False

theorem E_fnS {P : Program} {f : FuncId} {fn : Func} {c : Code} {args : List AV} {R : List Res} {Q : AV → Prop} (hf : P.funcs[f]? = some fn) (hb : fn.body = some c) (ha : args.length ≤ fn.ntmps)
    (h : ECode P fn.ntmps c (slotsOf 0 args) R (RetS P fn.results.toList R Q)) : EFn P f args R (fun r R' => Q r ∧ R' = R) := by
  intro w W vals hv hs
  have hnow : Now fn.ntmps (slotsOf 0 args) R { tmps := vals.toArray ++ Array.replicate (fn.ntmps - vals.toArray.size) undef, defers := [] } w W := by
    refine ⟨by simp [hv.1]; omega, rfl, fun t => ?_, hs⟩
    rw [get_slotsOf, if_pos (Nat.zero_le _), Nat.sub_zero]
    cases hx : args[t]? with
    | none => exact AVR.any ..
    | some x =>
      have hlt : t < vals.length := by
        rw [hv.1]
        rcases Nat.lt_or_ge t args.length with h' | h'
        · exact h'
        · rw [List.getElem?_eq_none h'] at hx; cases hx
      have hu : vals[t]? = some vals[t] := List.getElem?_eq_getElem hlt
      have := hv.2 t x _ hx hu
      simpa [Array.getD_eq_getD_getElem?, Array.getElem?_append, hlt] using this
  refine calls_of_wp hf hb (wp_mono (h _ w W hnow) fun e a w' hr => ?_)
  obtain ⟨s', R', W', hq, hn', ht⟩ := hr
  have fin : (∃ y, resv P R' s' fn.results.toList = some y ∧ R' = R ∧ Q y) →
      a.defers = [] ∧ ∃ v, (results fn a.tmps).run P w' = .ok v w' ∧ ∃ r R' W', (Q r ∧ R' = R) ∧ (∃ u, Ending.returned v = .returned u ∧ AVR W' R' w' r u) ∧ Sep w' W' R' ∧ Trans w W R w' W' R' := by
    rintro ⟨y, h1, rfl, h3⟩
    obtain ⟨v, k1, k2⟩ := resv_run hn' h1
    exact ⟨hn'.defers, v, k1, y, _, W', ⟨h3, rfl⟩, ⟨v, rfl, k2⟩, hn'.sep, ht⟩
  cases e with
  | normal => exact fin hq
  | ret => exact fin hq
  | exit id => exact hq.elim
  | goto l => exact hq.elim
  | panic ch => exact hq.elim
  | outgrown => exact hq.elim

end Go.Proofs.Ytkaikajjhhnifaa.E
