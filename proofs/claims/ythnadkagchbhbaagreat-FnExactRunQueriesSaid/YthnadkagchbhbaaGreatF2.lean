/- Words of the session's own, put together: part 2. -/
import Derived.Test.YthnadkagchbhbaaGreatF1
import Derived.Maps.AppendAt
import Derived.ProofKit
import Derived.OpenShut
import Derived.ShutString
import Derived.ChangeOld
import Derived.Carry
import Derived.SizedLaws
import Derived.Lib.SmallJoins
import Derived.Laws.StructEq
import Derived.Laws.Cover3
import Derived.Laws.Slices
namespace Go.Proofs.YthnadkagchbhbaaGreat.E
open Go Go.RowKit
set_option linter.unusedVariables false
set_option linter.unusedSimpArgs false

/-! ### 1. Numbers -/
theorem wrap_id {z : Int} (h : -9223372036854775808 ≤ z) (h' : z ≤ 9223372036854775807) : IntKind.i64.wrap z = z := by
 unfold IntKind.wrap; simp [IntKind.bits, IntKind.signed]; omega

section
variable {P : Program} {N : Nat} {s : Slots} {R : List Res} {K : Slots → List Res → Prop}

theorem L_add {o : Oper} {t t' : Nat} {x y : Operand} {u v : Int} (ho : o.op = .binOp .add t x y t') (hx : ev s x = .c (.sc (.int .i64 u))) (hy : ev s y = .c (.sc (.int .i64 v))) (h : -9223372036854775808 ≤ u + v ∧ u + v ≤ 9223372036854775807) : Pure P o s R (.c (.sc (.int .i64 (u + v)))) :=
 L_bin ho hx hy (by simp only [binV]; rw [wrap_id h.1 h.2])
theorem L_sub {o : Oper} {t t' : Nat} {x y : Operand} {u v : Int} (ho : o.op = .binOp .sub t x y t') (hx : ev s x = .c (.sc (.int .i64 u))) (hy : ev s y = .c (.sc (.int .i64 v))) (h : -9223372036854775808 ≤ u - v ∧ u - v ≤ 9223372036854775807) : Pure P o s R (.c (.sc (.int .i64 (u - v)))) :=
 L_bin ho hx hy (by simp only [binV]; rw [wrap_id h.1 h.2])
theorem L_mul {o : Oper} {t t' : Nat} {x y : Operand} {u v : Int} (ho : o.op = .binOp .mul t x y t') (hx : ev s x = .c (.sc (.int .i64 u))) (hy : ev s y = .c (.sc (.int .i64 v))) (h : -9223372036854775808 ≤ u * v ∧ u * v ≤ 9223372036854775807) : Pure P o s R (.c (.sc (.int .i64 (u * v)))) :=
 L_bin ho hx hy (by simp only [binV]; rw [wrap_id h.1 h.2])

/-! ### 2. Addresses, loads -/
theorem iav_ro {t e k : Nat} {b : Bool} {rows : List (List T)} {row : List T} {j : Int} (hs : isSlice P t = some e) (ht : tyIs P e = some (b, k)) (hj : 0 ≤ j) (hr : rows[j.toNat]? = some row) (hk : row.length = k) : iav P R t (.c (.ro rows)) j = some (.c (.rp row)) := by
 simp [iav, hj, isSlice_of hs, ht, hr, hk]
theorem iav_sl {t e e' k i off len tot : Nat} {b : Bool} {rows : List (List T)} {j : Int} (hs : isSlice P t = some e) (ht : tyIs P e = some (b, k)) (hj : 0 ≤ j) (hR : R[i]? = some (.row e' k rows)) (hl : rows.length = tot) (hjl : j.toNat < len) : iav P R t (.c (.sl i off len tot)) j = some (.c (.ep i (off + j.toNat) 0 tot)) := by
 simp [iav, hj, isSlice_of hs, ht, hR, hl, hjl]
theorem ld_bp {t n i off : Nat} {b : Bool} {cs : List AC} {y : AV} (hR : R[i]? = some (.box cs)) (ht : tyIs P t = some (b, n)) (hy : mkv b n ((cs.drop off).take n) = some y) : ldv P R t (.c (.bp i off)) = some y := by
 simp [ldv, hR, ht, hy]
theorem ld_rp {t n : Nat} {b : Bool} {ts : List T} {y : AV} (ht : tyIs P t = some (b, n)) (hy : mkv b n ((ts.take n).map tc) = some y) : ldv P R t (.c (.rp ts)) = some y := by
 simp only [ldv, ht, hy]
theorem ld_ep {t n i j off tot e k : Nat} {b : Bool} {rows : List (List T)} {row : List T} {y : AV} (hR : R[i]? = some (.row e k rows)) (hl : rows.length = tot) (hr : rows[j]? = some row) (ht : tyIs P t = some (b, n)) (hy : mkv b n (((row.drop off).take n).map tco) = some y) : ldv P R t (.c (.ep i j off tot)) = some y := by
 simp only [ldv, hR, hl, hr, ht, hy, if_true]

theorem st_bp {t n i off : Nat} {b : Bool} {cs ys : List AC} (hR : R[i]? = some (.box cs)) (ht : tyIs P t = some (b, n)) (hl : ys.length = n) (ho : off + n ≤ cs.length) : stv P R t (.c (.bp i off)) ys = some (R.set i (.box (splice cs off ys))) := by
 simp [stv, hR, ht, hl, ho]
theorem st_ep {t n i j off tot e k : Nat} {b : Bool} {rows : List (List T)} {row : List T} {ys : List AC} {xs : List Value} (hR : R[i]? = some (.row e k rows)) (hl : rows.length = tot) (hr : rows[j]? = some row) (ht : tyIs P t = some (b, n)) (hx : ys.mapM act = some xs) (hn : xs.length = n) (ho : off + n ≤ k) (ha : ((row.drop off).take n).all isSc = true) :
  stv P R t (.c (.ep i j off tot)) ys = some (R.set i (.row e k (rows.set j (splice row off (xs.map T.sc))))) := by
 simp [stv, hR, hl, hr, ht, hx, hn, ho, ha]

theorem E_region' {id : Nat} {ops : Array Oper} {L : List Nat} {Q : Exit → Slots → List Res → Prop} (hL : List.range ops.size = L) (h : EOps P N ops L s R (Q .normal)) : ECode P N (.region id ops false) s R Q := E_region (hL ▸ h)
end

theorem AR.ro_len {W : Wit} {R : List Res} {w : World} {rows : List (List T)} {v : Value} (h : AR W R w [.ro rows] [v]) : rows.length ≤ 9223372036854775807 := by
 cases h with
 | ro h2 _ =>
  cases h2 with
  | sl k g1 _ _ _ _ _ => have := g1.1; have := g1.2; unfold maxLen at this; omega

/-- The length of what is read is known to be small. -/
theorem E_bound {P : Program} {N : Nat} {s : Slots} {R : List Res} {c : Code} {Q : Exit → Slots → List Res → Prop} {t : Nat} {rows : List (List T)} (hs : get s t = .c (.ro rows)) (h : rows.length ≤ 9223372036854775807 → ECode P N c s R Q) : ECode P N c s R Q := by
 intro a w W hn
 have hv := hn.val t
 rw [hs] at hv
 exact h (AR.ro_len hv) a w W hn

/-! ### 3. Lists of whole numbers -/
def ints (xs : List Int) : List (List T) := xs.map fun x => [.sc (.int .i64 x)]
theorem ints_len (xs : List Int) : (ints xs).length = xs.length := by simp [ints]
theorem ints_at {xs : List Int} {k : Nat} {x : Int} (h : xs[k]? = some x) : (ints xs)[k]? = some [.sc (.int .i64 x)] := by simp [ints, h]
def bools (xs : List Bool) : List (List T) := xs.map fun x => [.sc (.bool x)]
theorem bools_len (xs : List Bool) : (bools xs).length = xs.length := by simp [bools]
def pairs (xs : List (Int × Int)) : List (List T) := xs.map fun x => [.sc (.int .i64 x.1), .sc (.int .i64 x.2)]
theorem pairs_len (xs : List (Int × Int)) : (pairs xs).length = xs.length := by simp [pairs]
theorem pairs_at {xs : List (Int × Int)} {k : Nat} {x : Int × Int} (h : xs[k]? = some x) : (pairs xs)[k]? = some [.sc (.int .i64 x.1), .sc (.int .i64 x.2)] := by simp [pairs, h]
def quads (xs : List (Int × Int × Int × Int)) : List (List T) := xs.map fun x => [.sc (.int .i64 x.1), .sc (.int .i64 x.2.1), .sc (.int .i64 x.2.2.1), .sc (.int .i64 x.2.2.2)]
theorem quads_len (xs : List (Int × Int × Int × Int)) : (quads xs).length = xs.length := by simp [quads]
def quints (xs : List (Int × Int × Int × Int × Int)) : List (List T) := xs.map fun x => [.sc (.int .i64 x.1), .sc (.int .i64 x.2.1), .sc (.int .i64 x.2.2.1), .sc (.int .i64 x.2.2.2.1), .sc (.int .i64 x.2.2.2.2)]
theorem quints_len (xs : List (Int × Int × Int × Int × Int)) : (quints xs).length = xs.length := by simp [quints]
theorem quints_at {xs : List (Int × Int × Int × Int × Int)} {k : Nat} {x : Int × Int × Int × Int × Int} (h : xs[k]? = some x) : (quints xs)[k]? = some [.sc (.int .i64 x.1), .sc (.int .i64 x.2.1), .sc (.int .i64 x.2.2.1), .sc (.int .i64 x.2.2.2.1), .sc (.int .i64 x.2.2.2.2)] := by simp [quints, h]

end Go.Proofs.YthnadkagchbhbaaGreat.E

namespace Go.Proofs.YthnadkagchbhbaaGreat.E
open Go Go.RowKit
set_option linter.unusedVariables false
set_option linter.unusedSimpArgs false

/-! ### 1. Loops -/
def keepOf (s : Slots) : List Nat → Slots
 | [] => []
 | d :: l => (d, E.get s d) :: keepOf s l

def chk (s : Slots) : Slots → Prop
 | [] => True
 | (d, v) :: L => (v = .any ∨ E.get s d = v) ∧ chk s L

def Sub (L s : Slots) : Prop := ∀ d, E.get L d = .any ∨ E.get s d = E.get L d

theorem chk.sub {s : Slots} : ∀ {L : Slots}, chk s L → Sub L s
 | [], _ => fun d => .inl rfl
 | (e, v) :: L, h => fun d => by
  simp only [E.get]
  split
  ·rename_i he; subst he; exact h.1
  ·exact chk.sub h.2 d

theorem Sub.app {s : Slots} : ∀ {L M : Slots}, chk s L → Sub M s → Sub (L ++ M) s
 | [], M, _, k => k
 | (e, v) :: L, M, h, k => fun d => by
  simp only [List.cons_append, E.get]
  split
  ·rename_i he; subst he; exact h.1
  ·exact Sub.app h.2 k d

theorem keep_sub (s : Slots) : ∀ l, chk s (keepOf s l)
 | [] => trivial
 | d :: l => ⟨.inr rfl, keep_sub s l⟩

theorem Now.sub {N : Nat} {L s : Slots} {R : List Res} {a : Act} {w : World} {W : Wit} (h : Now N s R a w W) (hs : Sub L s) : Now N L R a w W :=
 ⟨h.size, h.defers, fun t => by
  rcases hs t with e | e
  ·rw [e]; exact AVR.any ..
  ·rw [← e]; exact h.val t, h.sep⟩

section
variable {P : Program} {N : Nat} {s : Slots} {R : List Res} {Q : Exit → Slots → List Res → Prop}

theorem ECode.sub {c : Code} {L : Slots} (hs : Sub L s) (h : ECode P N c L R Q) : ECode P N c s R Q :=
 fun a w W hn => h a w W (hn.sub hs)

/-- A loop: x says where it stands; what it turns is told by mods, what it keeps stands in base. -/
theorem E_for {α : Type} {c : Code} (keep : List Nat) (mods : α → Slots) (Rf : α → List Res) (I : α → Prop) (m : α → Nat) (x0 : α) {base : Slots} (hb : keepOf s keep = base) (h0 : I x0) (hR : R = Rf x0) (h1 : chk s (mods x0))
  (round : ∀ x, I x → ECode P N c (mods x ++ base) (Rf x) (EThen (fun s' R' => ∃ y, m y < m x ∧ I y ∧ R' = Rf y ∧ chk s' (mods y) ∧ chk s' base) Q)) : ECode P N (.loop c) s R Q := by
 refine E_loop (fun n s' R' => ∃ x, n = m x ∧ I x ∧ R' = Rf x ∧ chk s' (mods x) ∧ chk s' base) (m x0) ⟨x0, rfl, h0, hR, h1, by rw [← hb]; exact keep_sub s keep⟩ ?_
 rintro n s' R' ⟨x, rfl, hI, rfl, k1, k2⟩
 refine ECode.sub (Sub.app k1 k2.sub) ((round x hI).mono ?_)
 intro e s2 R2 h
 cases e with
 | normal =>
  obtain ⟨y, g1, g2⟩ := h
  exact ⟨m y, g1, y, rfl, g2⟩
 | exit id => exact h
 | goto l => exact h
 | ret => exact h
 | panic ch => exact h
 | outgrown => exact h

/-- Two roads meet. -/
theorem E_seqJ {α : Type} {x y : Code} (keep : List Nat) (mods : α → Slots) (Rf : α → List Res) (I : α → Prop) {base : Slots} (hb : keepOf s keep = base)
  (hx : ECode P N x s R (EThen (fun s' R' => ∃ z, I z ∧ R' = Rf z ∧ chk s' (mods z) ∧ chk s' base) Q)) (hy : ∀ z, I z → ECode P N y (mods z ++ base) (Rf z) Q) : ECode P N (.seq x y) s R Q := by
 refine E_seq (hx.mono ?_)
 intro e s2 R2 h
 cases e with
 | normal =>
  obtain ⟨z, g1, rfl, g3, g4⟩ := h
  exact ECode.sub (Sub.app g3 g4.sub) (hy z g1)
 | exit id => exact h
 | goto l => exact h
 | ret => exact h
 | panic ch => exact h
 | outgrown => exact h

/-- A truth value is looked at. -/
theorem EOps_split {ops : Array Oper} {L : List Nat} {K : Slots → List Res → Prop} (d : Nat) {b : Bool} (hd : E.get s d = .c (.sc (.bool b))) (h1 : b = true → EOps P N ops L ((d, .c (.sc (.bool true))) :: s) R K) (h2 : b = false → EOps P N ops L ((d, .c (.sc (.bool false))) :: s) R K) : EOps P N ops L s R K := by
 intro Q a w W hn
 refine (?_ : EOps P N ops L ((d, .c (.sc (.bool b))) :: s) R K) Q a w W ⟨hn.size, hn.defers, fun t => ?_, hn.sep⟩
 ·cases b
  ·exact h2 rfl
  ·exact h1 rfl
 ·simp only [E.get]
  split
  ·rename_i e; subst e; rw [← hd]; exact hn.val d
  ·exact hn.val t

end

/-! ### 2. More operations on scalars -/
theorem run_underlying_ {P : Program} {t : TypeId} {d : TypeDesc} (h : P.underlying t = some d) (w : World) : (underlying t).run P w = .ok d w := by
 simp [underlying, h]

theorem run_equal_bool {P : Program} {t : TypeId} (ht : P.underlying t = some .bool) (a b : Bool) (w : World) : (Op.equal t (.bool a) (.bool b)).run P w = .ok (a == b) w := by
 show (Op.equalIn (9999 + 1) t (.bool a) (.bool b)).run P w = _
 rw [Op.equalIn]
 simp only [Sem.run_bind, run_underlying_ ht, Result.andThen_ok]
 rfl

/-- Two truth values compared. -/
def binB : BinOp → Bool → Bool → Option Value
 | .eql, a, b => some (.bool (a == b))
 | .neq, a, b => some (.bool (a != b))
 | _, _, _ => none

section
variable {P : Program} {N : Nat} {s : Slots} {R : List Res} {K : Slots → List Res → Prop}

theorem L_binB {o : Oper} {t t' : Nat} {op : BinOp} {x y : Operand} {a b : Bool} {v : Value} (ho : o.op = .binOp op t x y t') (ht : P.underlying t = some .bool) (hx : ev s x = .c (.sc (.bool a))) (hy : ev s y = .c (.sc (.bool b))) (hv : binB op a b = some v) : Pure P o s R (.c (.sc v)) := fun N a' w W hn =>
 ⟨v, AR.sc1 (v := v) (by unfold binB at hv; split at hv <;> first | (cases hv; done) | (obtain rfl := Option.some.inj hv; rfl)), fun w' => by
  simp only [execOp, ho, hn.sc hx, hn.sc hy]
  unfold binB at hv
  split at hv
  ·obtain rfl := Option.some.inj hv
   simp only [eqGuard, binOp, Sem.run_bind, run_equal_bool ht, Result.andThen_ok]
   rfl
  ·obtain rfl := Option.some.inj hv
   simp only [eqGuard, binOp, Sem.run_bind, run_equal_bool ht, Result.andThen_ok]
   rfl
  ·cases hv⟩

/-! ### 3. Structs and arrays as wholes -/
theorem foldl_splice (vs : List Value) : ∀ (arr : Array Value) (o j : Nat), o + j + vs.length ≤ arr.size → ((vs.zipIdx j).foldl (fun cs (p : Value × Nat) => cs.setIfInBounds (o + p.2) p.1) arr).toList = E.splice arr.toList (o + j) vs := by
 induction vs with
 | nil => intro arr o j _; simp [splice_nil]
 | cons v vs ih =>
  intro arr o j hl
  simp only [List.length_cons] at hl
  rw [List.zipIdx_cons, List.foldl_cons, ih _ _ _ (by simp; omega)]
  simp only [Array.toList_setIfInBounds]
  rw [show o + (j + 1) = o + j + 1 by omega, splice_cons _ _ _ _ (by simp; omega)]

/-- A struct type's zero cells, and where its fields lie; an array's. -/
def bld (P : Program) (t : TypeId) : Option (List Value × List (Nat × Nat)) :=
 match P.underlying t, (P.info? t).bind (·.zero) with
 | some (.struct fs), some z => if z.cells.toList.all (·.oneCell') then (fs.toList.mapM fun f => (tyIs P f.type).map fun x => (f.offset, x.2)).map fun pl => (z.cells.toList, pl) else none
 | some (.array n e), some z => if z.cells.toList.all (·.oneCell') then (tyIs P e).map fun x => (z.cells.toList, (List.range n).map fun i => (i * x.2, x.2)) else none
 | _, _ => none

def fillA (pl : List (Nat × Nat)) : List AC → List (Nat × List AC) → Option (List AC)
 | cs, [] => some cs
 | cs, (i, ys) :: rest => match pl[i]? with
  | some (off, n) => if ys.length = n ∧ off + n ≤ cs.length then fillA pl (E.splice cs off ys) rest else none
  | none => none

def partsOf (s : Slots) : List (Nat × Operand) → Option (List (Nat × List AC))
 | [] => some []
 | (i, x) :: l => match cellsOf (ev s x), partsOf s l with
  | some ys, some r => some ((i, ys) :: r)
  | _, _ => none

theorem fill_run {a : Act} {w : World} {W : Wit} {pl : List (Nat × Nat)} {place : Nat → Option (Nat × Nat)} (hpl : ∀ i x, pl[i]? = some x → place i = some x) (hn : Now N s R a w W) : ∀ {l : List (Nat × Operand)} {ps : List (Nat × List AC)} {cs ys : List AC} {arr : Array Value}, partsOf s l = some ps → fillA pl cs ps = some ys → AR W R w cs arr.toList →
  ∃ out, Instr.fill place arr (l.map fun p => (p.1, a.eval p.2)) = some out ∧ AR W R w ys out.toList
 | [], ps, cs, ys, arr, hp, hf, h => by
  obtain rfl : [] = ps := by simpa [partsOf] using hp
  obtain rfl : cs = ys := by simpa [fillA] using hf
  exact ⟨arr, rfl, h⟩
 | (i, x) :: l, ps, cs, ys, arr, hp, hf, h => by
  unfold partsOf at hp
  split at hp
  ·rename_i zs r h1 h2
   obtain rfl := Option.some.inj hp
   unfold fillA at hf
   split at hf
   ·rename_i off n hi
    split at hf
    ·rename_i hc
     have hz := cells_rel (hn.ev x) h1
     have hl1 := hz.length
     have hl2 := h.length
     simp only [Array.length_toList] at hl1 hl2
     obtain ⟨out, k1, k2⟩ := fill_run hpl hn h2 hf (arr := (((a.eval x).cells.zipIdx).foldl (fun cs (p : Value × Nat) => cs.setIfInBounds (off + p.2) p.1) arr)) (by
      have := foldl_splice (a.eval x).cells.toList arr off 0 (by simp only [Array.length_toList]; omega)
      have e : ((a.eval x).cells.zipIdx.foldl (fun cs (p : Value × Nat) => cs.setIfInBounds (off + p.2) p.1) arr) = ((a.eval x).cells.toList.zipIdx 0).foldl (fun cs (p : Value × Nat) => cs.setIfInBounds (off + p.2) p.1) arr := by
       rw [← Array.foldl_toList, Array.toList_zipIdx]
      rw [e, this, Nat.add_zero]
      exact h.splice hz off)
     refine ⟨out, ?_, k2⟩
     simp only [List.map_cons, Instr.fill, hpl i _ hi]
     rw [if_neg (by simp; omega)]
     exact k1
    ·cases hf
   ·cases hf
  ·cases hp

theorem mapM_places {fs : List Field} {pl : List (Nat × Nat)} (h : (fs.mapM fun f => (tyIs P f.type).map fun x => (f.offset, x.2)) = some pl) (w : World) : (fs.mapM fun f => (do pure (f.offset, ← sizeOf f.type) : Sem (Nat × Nat))).run P w = .ok pl w := by
 induction fs generalizing pl with
 | nil =>
  obtain rfl : [] = pl := by simpa using h
  simp
 | cons f fs ih =>
  rw [List.mapM_cons] at h
  cases ht : tyIs P f.type with
  | none => rw [ht] at h; cases h
  | some x =>
   rw [ht] at h
   cases hm : (fs.mapM fun f => (tyIs P f.type).map fun x => (f.offset, x.2)) with
   | none => rw [hm] at h; cases h
   | some q =>
    rw [hm] at h
    obtain rfl : (f.offset, x.2) :: q = pl := by simpa using h
    rw [List.mapM_cons]
    simp only [Sem.run_bind, run_sizeOf_ (agg := x.1) (n := x.2) (by rw [ht]), Result.andThen_ok, Sem.run_pure, ih hm]

theorem L_build {o : Oper} {t : TypeId} {parts : Array (Nat × Operand)} {zs : List Value} {pl : List (Nat × Nat)} {ps : List (Nat × List AC)} {ys : List AC} (ho : o.op = .build t parts) (hb : bld P t = some (zs, pl)) (hp : partsOf s parts.toList = some ps) (hf : fillA pl (zs.map .sc) ps = some ys) : Pure P o s R (.agg ys) := fun N a w W hn => by
 unfold bld at hb
 split at hb
 ·rename_i fs z hu hz
  split at hb
  ·rename_i hall
   cases hm : (fs.toList.mapM fun f => (tyIs P f.type).map fun x => (f.offset, x.2)) with
   | none => rw [hm] at hb; cases hb
   | some q =>
    rw [hm] at hb
    obtain ⟨rfl, rfl⟩ : z.cells.toList = zs ∧ q = pl := by simpa using hb
    obtain ⟨out, k1, k2⟩ := fill_run (place := (q.toArray[·]?)) (fun i x hx => by simpa using hx) hn hp hf (AR.scs hall)
    refine ⟨.agg out, ⟨out.toList, rfl, k2⟩, fun w' => ?_⟩
    have hz' : (zeroValue t).run P w' = .ok z w' := by
     cases hi : P.info? t with
     | none => rw [hi] at hz; cases hz
     | some i => rw [hi] at hz; simp only [Option.bind_some] at hz; simp [zeroValue, typeInfo, hi, hz]
    have hpl : (fs.mapM fun f => (do pure (f.offset, ← sizeOf f.type) : Sem (Nat × Nat))).run P w' = .ok q.toArray w' := by
     rw [Array.mapM_eq_mapM_toList]
     simp only [Sem.run_map]
     exact congrArg (fun z => Result.andThen z (fun (l : List (Nat × Nat)) w' => Result.ok l.toArray w')) (mapM_places hm w')
    simp only [execOp, ho, Instr.build, Sem.run_bind, hz', Result.andThen_ok, run_underlying_ hu, hpl]
    have e : (parts.map fun p => (p.1, a.eval p.2)).toList = parts.toList.map fun p => (p.1, a.eval p.2) := by simp
    rw [e, k1]
    rfl
  ·cases hb
 ·rename_i n e z hu hz
  split at hb
  ·rename_i hall
   cases hm : tyIs P e with
   | none => rw [hm] at hb; cases hb
   | some q =>
    rw [hm] at hb
    obtain ⟨rfl, rfl⟩ : z.cells.toList = zs ∧ (List.range n).map (fun i => (i * q.2, q.2)) = pl := by simpa using hb
    obtain ⟨out, k1, k2⟩ := fill_run (place := fun i => some (i * q.2, q.2)) (fun i x hx => by
     rw [List.getElem?_map] at hx
     cases hr : (List.range n)[i]? with
     | none => rw [hr] at hx; cases hx
     | some j =>
      rw [hr] at hx
      obtain rfl : i = j := by
       have := List.getElem?_eq_some_iff.1 hr
       obtain ⟨h1, h2⟩ := this
       simpa using h2
      exact hx) hn hp hf (AR.scs hall)
    refine ⟨.agg out, ⟨out.toList, rfl, k2⟩, fun w' => ?_⟩
    have hz' : (zeroValue t).run P w' = .ok z w' := by
     cases hi : P.info? t with
     | none => rw [hi] at hz; cases hz
     | some i => rw [hi] at hz; simp only [Option.bind_some] at hz; simp [zeroValue, typeInfo, hi, hz]
    simp only [execOp, ho, Instr.build, Sem.run_bind, hz', Result.andThen_ok, run_underlying_ hu, run_sizeOf_ (agg := q.1) (n := q.2) (by rw [hm])]
    have e : (parts.map fun p => (p.1, a.eval p.2)).toList = parts.toList.map fun p => (p.1, a.eval p.2) := by simp
    rw [e, k1]
    rfl
  ·cases hb
 ·cases hb

/-! ### 4. Closures -/
def capsOf (s : Slots) : List Operand → Option (List AC)
 | [] => some []
 | x :: l => match ev s x, capsOf s l with
  | .c y, some r => some (y :: r)
  | _, _ => none

theorem caps_rel {a : Act} {w : World} {W : Wit} (hn : Now N s R a w W) : ∀ {l : List Operand} {cs : List AC}, capsOf s l = some cs → AR W R w cs (l.map a.eval)
 | [], cs, h => by
  obtain rfl : [] = cs := by simpa [capsOf] using h
  exact .nil
 | x :: l, cs, h => by
  unfold capsOf at h
  split at h
  ·rename_i y r h1 h2
   obtain rfl := Option.some.inj h
   have hx := hn.ev x
   rw [h1] at hx
   exact AR.append (cs := [y]) (vs := [a.eval x]) hx (caps_rel hn h2)
  ·cases h

theorem L_func {o : Oper} {f : FuncId} {caps : Array Operand} {cs : List AC} (ho : o.op = .makeFunc (.func f) #[] caps) (hc : capsOf s caps.toList = some cs) : Pure P o s R (.c (.fn f cs)) := fun N a w W hn => by
 refine ⟨.func (.func f) #[] (caps.map a.eval), ?_, fun w' => ?_⟩
 ·have := AR.fn (f := f) (caps_rel hn hc) (AR.nil (W := W) (R := R) (w := w))
  have e : (caps.toList.map a.eval).toArray = caps.map a.eval := by apply Array.ext'; simp
  rw [e] at this
  exact this
 ·simp [execOp, ho, Instr.makeFunc]
end

/-! ### 5. A function that leaves the resources as they stand -/
def RetS (P : Program) (rs : List ResultVar) (R0 : List Res) (Q : AV → Prop) : Exit → Slots → List Res → Prop
 | .normal, s, R => ∃ y, resv P R s rs = some y ∧ R = R0 ∧ Q y
 | .ret, s, R => ∃ y, resv P R s rs = some y ∧ R = R0 ∧ Q y
 | _, _, _ => False

theorem E_fnS {P : Program} {f : FuncId} {fn : Func} {c : Code} {args : List AV} {R : List Res} {Q : AV → Prop} (hf : P.funcs[f]? = some fn) (hb : fn.body = some c) (ha : args.length ≤ fn.ntmps)
  (h : ECode P fn.ntmps c (slotsOf 0 args) R (RetS P fn.results.toList R Q)) : EFn P f args R (fun r R' => Q r ∧ R' = R) := by
 intro w W vals hv hs
 have hnow : Now fn.ntmps (slotsOf 0 args) R { tmps := vals.toArray ++ Array.replicate (fn.ntmps - vals.toArray.size) undef, defers := [] } w W := by
  refine ⟨by simp [hv.1]; omega, rfl, fun t => ?_, hs⟩
  rw [get_slotsOf, if_pos (Nat.zero_le _), Nat.sub_zero]
  cases hx : args[t]? with
  | none => exact AVR.any ..
  | some x =>
   have hlt : t < vals.length := by
    rw [hv.1]
    rcases Nat.lt_or_ge t args.length with h' | h'
    ·exact h'
    ·rw [List.getElem?_eq_none h'] at hx; cases hx
   have hu : vals[t]? = some vals[t] := List.getElem?_eq_getElem hlt
   have := hv.2 t x _ hx hu
   simpa [Array.getD_eq_getD_getElem?, Array.getElem?_append, hlt] using this
 refine calls_of_wp hf hb (wp_mono (h _ w W hnow) fun e a w' hr => ?_)
 obtain ⟨s', R', W', hq, hn', ht⟩ := hr
 have fin : (∃ y, resv P R' s' fn.results.toList = some y ∧ R' = R ∧ Q y) →
   a.defers = [] ∧ ∃ v, (results fn a.tmps).run P w' = .ok v w' ∧ ∃ r R' W', (Q r ∧ R' = R) ∧ (∃ u, Ending.returned v = .returned u ∧ AVR W' R' w' r u) ∧ Sep w' W' R' ∧ Trans w W R w' W' R' := by
  rintro ⟨y, h1, rfl, h3⟩
  obtain ⟨v, k1, k2⟩ := resv_run hn' h1
  exact ⟨hn'.defers, v, k1, y, _, W', ⟨h3, rfl⟩, ⟨v, rfl, k2⟩, hn'.sep, ht⟩
 cases e with
 | normal => exact fin hq
 | ret => exact fin hq
 | exit id => exact hq.elim
 | goto l => exact hq.elim
 | panic ch => exact hq.elim
 | outgrown => exact hq.elim

end Go.Proofs.YthnadkagchbhbaaGreat.E

namespace Go.Proofs.YthnadkagchbhbaaGreat.E
open Go Go.RowKit
set_option linter.unusedVariables false
set_option linter.unusedSimpArgs false

section
variable {P : Program} {N : Nat} {s : Slots} {R : List Res} {K : Slots → List Res → Prop}

/-- Any callee, under the resources as they stand. -/
theorem EOp_call' {o : Oper} {x : Operand} {args : Array Operand} {ats : Array TypeId} {f : FuncId} {caps : List AC} {args' : List AV} {Q : AV → List Res → Prop} (ho : o.op = .call { callee := .value x, args := args, argTypes := ats }) (hd : ∀ d, o.dst = some d → d < N) (hx : ev s x = .c (.fn f caps)) (hf : callable P f = true)
  (h : EFn P f args' R Q) (ha : args.toList.map (ev s) ++ caps.map .c = args') (hk : ∀ r R', Q r R' → K (fill' s o.dst r) R') : EOp P N o s R K :=
 EOp_call ho hd hx hf (EFn.mono (ha ▸ h) hk)

theorem H_pcall1 {o : Oper} {x : Operand} {args : Array Operand} {ats : Array TypeId} {f : FuncId} {args' : List AV} {Q : AV → List Res → Prop} {d : Nat} (ho : o.op = .call { callee := .value x, args := args, argTypes := ats }) (hd : o.dst = some d) (hN : d < N) (hx : ev s x = .c (.fn f [])) (hf : callable P f = true)
  (h : EFn P f args' [] Q) (ha : (args.toList.map (ev s)).map (E.lend R) = args') (hq : ∀ r S, Q r S → r.own = true ∧ S.all Res.own = true)
  (hk : ∀ r S, Q r S → K ((d, r.sh R.length) :: s) (R ++ S.map (Res.sh R.length))) : Heavy P N o s R K :=
 H_pcall ho (fun d' hd' => by rw [hd] at hd'; cases hd'; exact hN) hx hf (ha ▸ h) hq (fun r S hr => by rw [hd]; exact hk r S hr)

theorem EOp_call1 {o : Oper} {x : Operand} {args : Array Operand} {ats : Array TypeId} {f : FuncId} {caps : List AC} {args' : List AV} {Q : AV → List Res → Prop} {d : Nat} (ho : o.op = .call { callee := .value x, args := args, argTypes := ats }) (hd : o.dst = some d) (hN : d < N) (hx : ev s x = .c (.fn f caps)) (hf : callable P f = true)
  (h : EFn P f args' R Q) (ha : args.toList.map (ev s) ++ caps.map .c = args') (hk : ∀ r R', Q r R' → K ((d, r) :: s) R') : EOp P N o s R K :=
 EOp_call' ho (fun d' hd' => by rw [hd] at hd'; cases hd'; exact hN) hx hf h ha (fun r R' hr => by rw [hd]; exact hk r R' hr)

/-- An operation that may make memory, turns nothing that stood and yields y. -/
def HeavyV (P : Program) (o : Oper) (s : Slots) (R : List Res) (K : AV → List Res → Prop) : Prop :=
 ∀ N Q a w W, Now N s R a w W → o.wp P a w (fun a' w' => Below w.heap.size w w' ∧ ∃ y R' W' v, K y R' ∧ a' = a.put o.dst v ∧ AVR W' R' w' y v ∧ Trans w W R w' W' R' ∧ Sep w' W' R') Q

theorem HeavyV.heavy {o : Oper} (hd : ∀ d, o.dst = some d → d < N) (h : HeavyV P o s R fun y R' => K (fill' s o.dst y) R') : Heavy P N o s R K := by
 intro Q a w W hn
 refine Oper.wp_mono (fun a' w' hh => ?_) (h N Q a w W hn)
 obtain ⟨h1, y, R', W', v, h2, rfl, h3, h4, h5⟩ := hh
 exact ⟨h1, _, R', W', h2, (hn.next h4 h5).fill' hd h3, h4⟩

/-! ### 1. Scalars alone -/
theorem Ow.scs {w : World} {O : Nat → Prop} {ts : List T} {vs : List Value} (h : Rd w O ts vs) (ha : ts.all isSc = true) : Ow w ts vs (fun _ => False) := by
 induction h with
 | nil => exact .nil
 | sc h1 _ ih => exact .sc h1 (ih (by simpa [isSc] using ha))
 | sl k h1 h2 h3 h4 _ _ _ _ => simp [isSc] at ha

theorem Ow.scv {w : World} : ∀ {vs : List Value}, (∀ v ∈ vs, v.oneCell' = true) → Ow w (vs.map T.sc) vs (fun _ => False)
 | [], _ => .nil
 | v :: vs, h => .sc (h v (List.mem_cons_self ..)) (Ow.scv fun u hu => h u (List.mem_cons_of_mem _ hu))

/-- A new row at the end. -/
theorem Sep.row {w w' : World} {W : Wit} {R : List Res} (hs : Sep w W R) {e k : Nat} {v : Value} {rows : List (List T)} {cells : List Value} (ho : w'.os = w.os) (htp : w'.tape = w.tape) (hout : w'.output = w.output) (hsz : w.heap.size ≤ w'.heap.size)
  (hold : ∀ b, b < w.heap.size → w'.heap[b]? = w.heap[b]?) (hk : 0 < k) (hr : ∀ r ∈ rows, r.length = k) (hown : w'.ownsRow 0 e k v rows.length cells) (hob : ∀ b, v.ownBlock = some b → w.heap.size ≤ b) (hc : Ow w' rows.flatten cells (fun _ => False)) :
  ∃ W', Trans w W R w' W' (R ++ [.row e k rows]) ∧ Sep w' W' (R ++ [.row e k rows]) ∧ W'.hs R.length = v := by
 obtain ⟨h1, h2⟩ := hs.more (w' := w') (r := .row e k rows) (v := v) (F := fun b => v.ownBlock = some b) ho htp hout hsz hold
  (fun b hb => ⟨hob b hb, (hown.lt b hb).2⟩) (fun h => by cases h) (fun tr => ⟨hk, hr, cells, fun _ => False, hown, hc, fun _ _ h => h, fun b => by simp⟩)
 exact ⟨_, h1, h2, by simp [Wit.new]⟩

/-- The whole of a row. -/
theorem sl_whole {W' : Wit} {R' : List Res} {w' : World} {i n : Nat} {e k : Nat} {rows : List (List T)} {v : Value} (hi : R'[i]? = some (.row e k rows)) (hl : rows.length = n) (hv : W'.hs i = v) (h1 : v.oneCell' = true) (hs : Sep w' W' R') : AVR W' R' w' (.c (.sl i 0 n n)) v := by
 have hlt : i < R'.length := by
  rcases Nat.lt_or_ge i R'.length with h' | h'
  ·exact h'
  ·rw [List.getElem?_eq_none h'] at hi; cases hi
 refine AR.sl h1 hlt (fun e' k' rows' hr => ?_) .nil
 rw [hi] at hr
 obtain ⟨rfl, rfl, rfl⟩ : e = e' ∧ k = k' ∧ rows = rows' := by cases hr; exact ⟨rfl, rfl, rfl⟩
 refine ⟨by omega, fun _ => ?_⟩
 obtain ⟨f1, f2, cells, G, f3, _⟩ := hs.res i _ hi
 obtain ⟨a, c, g1, g2, g3, _, g4⟩ := ownsRow_reads f3
 rw [hv] at g1
 refine ⟨a, rows.length, c, hv.trans g1, by omega, .inl ?_⟩
 rw [g1, hl]
 simp only [Nat.zero_mul, Nat.sub_zero]
 congr 1
 cases a with
 | none => rfl
 | some b =>
  rcases f3.2 with ⟨g5, _⟩ | ⟨g, cap, cur, g5, _⟩
  ·rw [hv, g1] at g5; cases g5
  ·rw [hv, g1] at g5
   have : b = ⟨g, 0, none⟩ := by cases g5; rfl
   rw [this]; rfl

/-! ### 2. A row is made -/
def zT : AC → T
 | .sc (.slice none 0 0) => .sl []
 | .sc v => .sc v
 | _ => .sl []

theorem zT_ow {w : World} : ∀ {zs : List Value}, zs.all (·.oneCell') = true → Ow w ((zs.map AC.sc).map zT) zs (fun _ => False)
 | [], _ => .nil
 | z :: zs, h => by
  simp only [List.all_cons, Bool.and_eq_true] at h
  have ih := zT_ow (w := w) h.2
  simp only [List.map_cons, zT]
  split
  ·rename_i e
   obtain rfl : z = .slice none 0 0 := by cases e; rfl
   have := Ow.sl (w := w) (rows := []) (v := .slice none 0 0) (cells := []) 0 1 (by omega) (by simp) ⟨rfl, .inl ⟨rfl, rfl⟩⟩ (by simpa using Ow.nil) ih (fun b hb => by cases hb) (fun _ h => False.elim h)
   have e2 : (fun b : Nat => (Value.slice none 0 0).ownBlock = some b ∨ (fun _ : Nat => False) b ∨ (fun _ : Nat => False) b) = fun _ => False := by funext b; simp [Value.ownBlock]
   rw [e2] at this
   exact this
  ·rename_i v _ e
   obtain rfl : z = v := by cases e; rfl
   exact .sc h.1 ih
  ·rename_i e1 e2; exact absurd rfl (e2 z)

theorem madeCells_flat (z : Array Value) : ∀ n, (madeCells z (n * z.size)).toList = (List.replicate n z.toList).flatten := by
 intro n
 have hk : ∀ r ∈ List.replicate n z.toList, r.length = z.size := by
  intro r hr
  rw [List.eq_of_mem_replicate hr]; simp
 apply List.ext_getElem?
 intro j
 by_cases hj : j < n * z.size
 ·have hz : 0 < z.size := Nat.pos_of_ne_zero fun h => by rw [h] at hj; omega
  have hq : j / z.size < n := (Nat.div_lt_iff_lt_mul hz).2 hj
  have hm := Nat.mod_lt j hz
  have h1 := flatten_row hk (j := j / z.size) (row := z.toList) (by simp [hq])
  have h2 : (List.replicate n z.toList).flatten[j]? = z.toList[j % z.size]? := by
   have := congrArg (fun l => l[j % z.size]?) h1
   simp only [List.getElem?_take, hm, if_true, List.getElem?_drop] at this
   rwa [show j / z.size * z.size + j % z.size = j by rw [Nat.mul_comm]; exact Nat.div_add_mod j z.size] at this
  rw [h2]
  simp [madeCells, hj, hm]
 ·rw [List.getElem?_eq_none (by rw [Array.length_toList, size_madeCells]; omega), List.getElem?_eq_none (by rw [flatten_len hk, List.length_replicate]; omega)]

theorem Ow.rep {w : World} {ts : List T} {vs : List Value} (h : Ow w ts vs (fun _ => False)) : ∀ n, Ow w (List.replicate n ts).flatten (List.replicate n vs).flatten (fun _ => False)
 | 0 => (Ow.nil : Ow w [] [] (fun _ => False))
 | n + 1 => by
  obtain ⟨H, h1, h2⟩ := h.append (Ow.rep h n) (fun _ h => False.elim h)
  have : H = fun _ => False := by funext b; exact propext ((h2 b).trans (by simp))
  rw [this] at h1
  rw [List.replicate_succ, List.replicate_succ, List.flatten_cons, List.flatten_cons]
  exact h1

theorem by_parts {t bytes : Nat} {b : Bool} {k : Nat} {zs : List AC} (hty : tyIs P t = some (b, k)) (hby : (P.info? t).map (·.bytes) = some bytes) (hz : zav P t = some zs) :
  ∃ i z, P.info? t = some i ∧ i.zero = some z ∧ i.size = k ∧ i.bytes = bytes ∧ zs = z.cells.toList.map AC.sc ∧ z.cells.toList.all (·.oneCell') = true := by
 obtain ⟨d, i, h1, _, h2, h3⟩ := tyIs_parts hty
 unfold zav at hz
 rw [h2] at hz hby
 simp only [Option.bind_some] at hz
 cases hi : i.zero with
 | none => rw [hi] at hz; cases hz
 | some z =>
  rw [hi] at hz
  simp only at hz
  split at hz
  ·rename_i ha
   exact ⟨i, z, h2, hi, h3, by simpa using hby, (Option.some.inj hz).symm, ha⟩
  ·cases hz

theorem H_make {o : Oper} {d t e n k bytes : Nat} {x y : Operand} {b : Bool} {zs : List AC} (ho : o.op = .makeSlice t x y) (hd : o.dst = some d) (hN : d < N) (hx : ev s x = .c (.sc (.int .i64 (n : Int)))) (hy : ev s y = .c (.sc (.int .i64 (n : Int))))
  (ht : isSlice P t = some e) (hty : tyIs P e = some (b, k)) (hby : (P.info? e).map (·.bytes) = some bytes) (hz : zav P e = some zs) (hzl : zs.length = k ∧ 0 < k) (hn : bytes * n ≤ 281474976710656 ∧ n ≤ 9223372036854775807)
  (h : K ((d, .c (.sl R.length 0 n n)) :: s) (R ++ [.row e k (List.replicate n (zs.map zT))])) : Heavy P N o s R K := by
 intro Q a w W hn'
 obtain ⟨i, z, h1, h2, h3, h4, rfl, h6⟩ := by_parts hty hby hz
 have hzk : z.cells.size = k := by have := hzl.1; simpa using this
 obtain ⟨w', r1, r2, r3⟩ := run_make_full (P := P) w 0 t e i z k (isSlice_of ht) h1 h2 h3 .i64 .i64 n (by rw [h4]; exact hn.1) (by unfold maxLen; omega) (Nat.zero_le _)
 have hfl : (madeCells z.cells (n * k)).toList = (List.replicate n z.cells.toList).flatten := by rw [← hzk]; exact madeCells_flat _ _
 obtain ⟨W', k1, k2, k3⟩ := hn'.sep.row (rows := List.replicate n ((z.cells.toList.map AC.sc).map zT)) (cells := (madeCells z.cells (n * k)).toList) (k := k) (e := e) (v := .slice (some ⟨w.heap.size, 0, none⟩) n n) r3.os r3.tape r3.output r3.size
  (fun b hb => r3.block b hb (by simp)) hzl.2 (fun r hr => by rw [List.eq_of_mem_replicate hr]; simpa using hzk) (by rw [List.length_replicate]; exact r2) (fun b hb => by cases hb; exact Nat.le_refl _)
  (by rw [hfl]; exact (zT_ow h6).rep n)
 unfold Oper.wp
 have hr : (execOp a.eval o).run P w = .ok (.value (.slice (some ⟨w.heap.size, 0, none⟩) n n)) w' := by
  simp only [execOp, ho, hn'.sc hx, hn'.sc hy, Sem.run_bind, r1, Result.andThen_ok]; rfl
 rw [hr, Oper.upon_value, hd]
 exact ⟨⟨r3.os, r3.tape, r3.output, r3.size, fun b hb => r3.block b hb (by simp)⟩, _, _, W', h, (hn'.next k1 k2).put hN (sl_whole (e := e) (k := k) (rows := List.replicate n ((z.cells.toList.map AC.sc).map zT)) (by simp) (by simp) k3 rfl k2), k1⟩

end

theorem cons_eq {α : Type} {a b : α} {l m : List α} (h : a = b) (k : l = m) : a :: l = b :: m := by rw [h, k]
theorem lend_whole {R : List Res} {i e k n : Nat} {rows : List (List T)} (hR : R[i]? = some (.row e k rows)) (hn : rows.length = n) : E.lend R (.c (.sl i 0 n n)) = .c (.ro rows) := by
 simp [E.lend, lendC, hR, hn, List.take_of_length_le (Nat.le_of_eq hn)]
theorem lendC_whole {R : List Res} {i e k n : Nat} {rows : List (List T)} (hR : R[i]? = some (.row e k rows)) (hn : rows.length = n) : lendC R (.sl i 0 n n) = .ro rows := by
 simp [lendC, hR, hn, List.take_of_length_le (Nat.le_of_eq hn)]
theorem ren_sc (n : Nat) (σ : List Nat) (v : Value) : AC.ren n σ (.sc v) = .sc v := rfl
theorem ren_ro (n : Nat) (σ : List Nat) (v : List (List T)) : AC.ren n σ (.ro v) = .ro v := rfl
theorem bool_eq {a b : Bool} (h : a = true ↔ b = true) : AV.c (.sc (.bool a)) = .c (.sc (.bool b)) := by rw [Bool.eq_iff_iff.2 h]
theorem agg_eq {a b : List AC} (h : a = b) : AV.agg a = AV.agg b := by rw [h]
theorem int_eq {a b : Int} (h : a = b) : AV.c (.sc (.int .i64 a)) = .c (.sc (.int .i64 b)) := by rw [h]

/-! ### 3. Lists of scalars, told anew -/
theorem ints_set {xs : List Int} {k : Nat} {x : Int} : (ints xs).set k [.sc (.int .i64 x)] = ints (xs.set k x) := by simp [ints, List.map_set]
theorem ints_take (xs : List Int) (n : Nat) : (ints xs).take n = ints (xs.take n) := by simp [ints, List.map_take]
theorem ints_app (xs ys : List Int) : ints xs ++ ints ys = ints (xs ++ ys) := by simp [ints]
theorem ints_rep (n : Nat) : List.replicate n [T.sc (.int .i64 0)] = ints (List.replicate n 0) := by simp [ints]
theorem ints_row (xs : List Int) : ∀ r ∈ ints xs, r.length = 1 ∧ r.all isSc = true := by
 intro r hr
 simp only [ints, List.mem_map] at hr
 obtain ⟨x, _, rfl⟩ := hr
 exact ⟨rfl, rfl⟩
theorem ints_inj {xs ys : List Int} (h : ints xs = ints ys) : xs = ys := by
 apply List.ext_getElem?
 intro i
 have := congrArg (fun l => l[i]?) h
 simp only [ints, List.getElem?_map] at this
 cases h1 : xs[i]? <;> cases h2 : ys[i]? <;> simp_all
theorem pairs_row (xs : List (Int × Int)) : ∀ r ∈ pairs xs, r.length = 2 ∧ r.all isSc = true := by
 intro r hr
 simp only [pairs, List.mem_map] at hr
 obtain ⟨x, _, rfl⟩ := hr
 exact ⟨rfl, rfl⟩
theorem pairs_app (xs ys : List (Int × Int)) : pairs xs ++ pairs ys = pairs (xs ++ ys) := by simp [pairs]
theorem pairs_set {xs : List (Int × Int)} {k : Nat} {x : Int × Int} : (pairs xs).set k [.sc (.int .i64 x.1), .sc (.int .i64 x.2)] = pairs (xs.set k x) := by simp [pairs, List.map_set]
theorem pairs_rep (n : Nat) : List.replicate n [T.sc (.int .i64 0), T.sc (.int .i64 0)] = pairs (List.replicate n (0, 0)) := by simp [pairs]
theorem quints_row (xs : List (Int × Int × Int × Int × Int)) : ∀ r ∈ quints xs, r.length = 5 ∧ r.all isSc = true := by
 intro r hr
 simp only [quints, List.mem_map] at hr
 obtain ⟨x, _, rfl⟩ := hr
 exact ⟨rfl, rfl⟩
/-- The first k as asked, the rest as at the start. -/
def part {α : Type} (xs : List α) (z : α) (k : Nat) : List α := xs.take k ++ List.replicate (xs.length - k) z
theorem part_zero {α : Type} (xs : List α) (z : α) : part xs z 0 = List.replicate xs.length z := by simp [part]
theorem part_len {α : Type} (xs : List α) (z : α) {k : Nat} (h : k ≤ xs.length) : (part xs z k).length = xs.length := by simp [part]; omega
theorem part_full {α : Type} (xs : List α) (z : α) {k : Nat} (h : xs.length ≤ k) : part xs z k = xs := by
 simp [part, List.take_of_length_le h, show xs.length - k = 0 by omega]
theorem part_set {α : Type} {xs : List α} {z x : α} {k : Nat} (h : xs[k]? = some x) : (part xs z k).set k x = part xs z (k + 1) := by
 have hk : k < xs.length := by
  rcases Nat.lt_or_ge k xs.length with h' | h'
  ·exact h'
  ·rw [List.getElem?_eq_none h'] at h; cases h
 have hx : xs[k] = x := by rw [List.getElem?_eq_getElem hk] at h; exact Option.some.inj h
 unfold part
 rw [List.set_append, if_neg (by simp; omega), List.length_take, Nat.min_eq_left (Nat.le_of_lt hk), Nat.sub_self, List.take_succ_eq_append_getElem hk, hx]
 obtain ⟨m, hm⟩ : ∃ m, xs.length - k = m + 1 := ⟨xs.length - k - 1, by omega⟩
 rw [hm, List.replicate_succ, List.set_cons_zero, show xs.length - (k + 1) = m by omega]
 simp
theorem part_at {α : Type} {xs : List α} {z : α} {k : Nat} (h : k < xs.length) : (part xs z k)[k]? = some z := by
 unfold part
 rw [List.getElem?_append_right (by simp; omega), List.length_take, Nat.min_eq_left (Nat.le_of_lt h), Nat.sub_self, List.getElem?_replicate, if_pos (by omega)]

end Go.Proofs.YthnadkagchbhbaaGreat.E

namespace Go.Proofs.YthnadkagchbhbaaGreat.E
open Go Go.ChangeShapes Go.WideShapes Go.ChangeAt Go.RowKit Go.Joins
set_option linter.unusedVariables false
set_option linter.unusedSimpArgs false

/-! ### 1. Types of arguments -/
inductive Ty where
 | int
 | bool
 | str
 | sl (e : Ty)
 | st (b : Ty)
 | nil
 | cons (a b : Ty)

def Ty.den : Ty → Type
 | .int => Int
 | .bool => Bool
 | .str => ByteArray
 | .sl e => List e.den
 | .st b => b.den
 | .nil => Unit
 | .cons a b => a.den × b.den

def Ty.enc : (τ : Ty) → τ.den → List T
 | .int, n => [.sc (.int .i64 n)]
 | .bool, b => [.sc (.bool b)]
 | .str, s => [.sc (.string s)]
 | .sl e, xs => [.sl (List.map e.enc xs)]
 | .st b, y => b.enc y
 | .nil, _ => []
 | .cons a b, y => a.enc y.1 ++ b.enc y.2

def Ty.n : Ty → Nat
 | .int => 1
 | .bool => 1
 | .str => 1
 | .sl _ => 1
 | .st b => b.n
 | .nil => 0
 | .cons a b => a.n + b.n

/-- Whole numbers that are no whole numbers of Go's do not come up. -/
def Ty.ok : (τ : Ty) → τ.den → Prop
 | .int, n => -9223372036854775808 ≤ (show Int from n) ∧ (show Int from n) ≤ 9223372036854775807
 | .bool, _ => True
 | .str, s => (show ByteArray from s).size ≤ 9223372036854775807
 | .sl e, xs => ∀ x ∈ (show List e.den from xs), e.ok x
 | .st b, y => b.ok y
 | .nil, _ => True
 | .cons a b, y => a.ok y.1 ∧ b.ok y.2

def Ty.av : (τ : Ty) → τ.den → AV
 | .int, n => .c (.sc (.int .i64 n))
 | .bool, b => .c (.sc (.bool b))
 | .str, s => .c (.sc (.string s))
 | .sl e, xs => .c (.ro (List.map e.enc xs))
 | .st b, y => .agg ((b.enc y).map tc)
 | .nil, _ => .any
 | .cons _ _, _ => .any

theorem Ty.enc_len : ∀ (τ : Ty) (y : τ.den), (τ.enc y).length = τ.n
 | .int, _ => rfl
 | .bool, _ => rfl
 | .str, _ => rfl
 | .sl _, _ => rfl
 | .st b, y => Ty.enc_len b y
 | .nil, _ => rfl
 | .cons a b, y => by
  simp only [Ty.enc, Ty.n, List.length_append, Ty.enc_len a y.1, Ty.enc_len b y.2]

mutual
def fits (P : Program) : Ty → TypeId → Bool
 | .int, t => match P.underlying t with | some (.int .i64) => true | _ => false
 | .bool, t => match P.underlying t with | some .bool => true | _ => false
 | .str, t => match P.underlying t with | some .string => true | _ => false
 | .sl e, t => match P.underlying t with | some (.slice u) => P.cellsOf u == e.n && decide (0 < e.n) && fits P e u | _ => false
 | .st b, t => match P.underlying t with | some (.struct fs) => P.cellsOf t == b.n && fitsF P b fs.toList 0 | _ => false
 | .nil, _ => false
 | .cons _ _, _ => false
def fitsF (P : Program) : Ty → List Field → Nat → Bool
 | .nil, fs, _ => fs.isEmpty
 | .cons a b, fs, off => match fs with
  | f :: fs => f.offset == off && P.cellsOf f.type == a.n && fits P a f.type && fitsF P b fs (off + a.n)
  | [] => false
 | .int, _, _ => false
 | .bool, _, _ => false
 | .str, _, _ => false
 | .sl _, _, _ => false
 | .st _, _, _ => false
end

section
variable {H : Type} {enc : TypeId × Value → H} {P : Program} {w : World} {sp : Nat → Bool} {held : Bool}

theorem rows_of {e : Ty} {k : Nat} {a : Addr} {tr : List Value → Option (DataW H × List MemPlace)} (he : k = e.n)
  (hone : ∀ cs x, tr cs = some x → ∃ y, e.ok y ∧ Rd w (fun b => b < w.heap.size) (e.enc y) cs) :
  ∀ (elems : List (DataW H × List MemPlace)) (m : Nat), (∀ i, i < elems.length → (w.cells? 0 (a.add ((m + i) * k)) k).bind tr = elems[i]?) →
  ∃ (ys : List e.den) (inner : List Value), ys.length = elems.length ∧ (∀ y ∈ ys, e.ok y) ∧ Rd w (fun b => b < w.heap.size) (ys.map e.enc).flatten inner ∧ inner.length = elems.length * k ∧ ∀ j u, inner[j]? = some u → w.cell? (a.add (m * k + j)) = some u
 | [], m, h => ⟨[], [], rfl, by simp, .nil, by simp, by simp⟩
 | x :: elems, m, h => by
  have h0 := h 0 (by simp)
  simp only [List.getElem?_cons_zero, Nat.add_zero, Option.bind_eq_some_iff] at h0
  obtain ⟨cs, h1, h2⟩ := h0
  obtain ⟨y, hy, hrd⟩ := hone cs x h2
  obtain ⟨-, hl, hc⟩ := World.cells?_some h1
  obtain ⟨ys, inner, g1, g2, g3, g4, g5⟩ := rows_of he hone elems (m + 1) (fun i hi => by
   have := h (i + 1) (by simp; omega)
   rw [List.getElem?_cons_succ] at this
   rw [show m + 1 + i = m + (i + 1) by omega]; exact this)
  refine ⟨y :: ys, cs ++ inner, by simp [g1], fun z hz => by rcases List.mem_cons.1 hz with rfl | hz; exact hy; exact g2 z hz, ?_, by simp [hl, g4, Nat.add_mul]; omega, fun j u hj => ?_⟩
  ·rw [List.map_cons, List.flatten_cons]; exact hrd.append g3
  ·rw [List.getElem?_append] at hj
   have hadd : ∀ p q, (a.add p).add q = a.add (p + q) := fun p q => by
    unfold Addr.add
    by_cases hp : p = 0 <;> by_cases hq : q = 0 <;> simp [hp, hq]
    omega
   split at hj
   ·rename_i hlt
    rw [hl] at hlt
    have := hc j hlt
    rw [hj, hadd] at this
    exact this
   ·have := g5 _ u hj
    rw [show (m + 1) * k + (j - cs.length) = m * k + j by rw [Nat.add_mul, hl]; omega] at this
    exact this

theorem trodRd (τ : Ty) : (∀ t n cs x, fits P τ t = true → DataW.trod enc P w 0 sp held n t cs = some x → ∃ y : τ.den, τ.ok y ∧ Rd w (fun b => b < w.heap.size) (τ.enc y) cs) ∧
  (∀ (fs : List Field) (off n : Nat) (cs : List Value) (xs : List (DataW H × List MemPlace)), fitsF P τ fs off = true → xs.length = fs.length → (∀ (i : Nat) (f : Field), fs[i]? = some f → DataW.trod enc P w 0 sp held n f.type ((cs.drop f.offset).take (P.cellsOf f.type)) = xs[i]?) →
   ∃ y : τ.den, τ.ok y ∧ Rd w (fun b => b < w.heap.size) (τ.enc y) ((cs.drop off).take τ.n)) := by
 induction τ with
 | int =>
  refine ⟨fun t n cs x hf h => ?_, fun fs off n cs xs hf => by simp [fitsF] at hf⟩
  unfold fits at hf
  split at hf
  ·rename_i hu
   obtain ⟨z, rfl, -, hw⟩ := DataW.trod_int hu h
   refine ⟨z, ?_, .sc rfl .nil⟩
   simp [Lit.wf, IntKind.has, IntKind.min, IntKind.max, IntKind.bits, IntKind.signed] at hw
   exact (⟨by omega, by omega⟩ : -9223372036854775808 ≤ z ∧ z ≤ 9223372036854775807)
  ·cases hf
 | bool =>
  refine ⟨fun t n cs x hf h => ?_, fun fs off n cs xs hf => by simp [fitsF] at hf⟩
  unfold fits at hf
  split at hf
  ·rename_i hu
   obtain ⟨z, rfl, -⟩ := DataW.trod_bool hu h
   exact ⟨z, trivial, .sc rfl .nil⟩
  ·cases hf
 | str =>
  refine ⟨fun t n cs x hf h => ?_, fun fs off n cs xs hf => by simp [fitsF] at hf⟩
  unfold fits at hf
  split at hf
  ·rename_i hu
   obtain ⟨z, rfl, -, hw⟩ := DataW.trod_string hu h
   exact ⟨z, by unfold maxLen at hw; exact (by omega : z.size ≤ 9223372036854775807), .sc rfl .nil⟩
  ·cases hf
 | sl e ih =>
  refine ⟨fun t n cs x hf h => ?_, fun fs off n cs xs hf => by simp [fitsF] at hf⟩
  unfold fits at hf
  split at hf
  ·rename_i u hu
   simp only [Bool.and_eq_true, beq_iff_eq, decide_eq_true_eq] at hf
   obtain ⟨⟨h1, h2⟩, h3⟩ := hf
   rcases DataW.trod_slice hu h with ⟨rfl, -⟩ | ⟨a, len, cap, elems, rest, m, rfl, rfl, -, -, hlc, hcm, hlen, hel, -, -⟩
   ·exact ⟨[], by simp [Ty.ok], nil_ro _ _⟩
   ·obtain ⟨ys, inner, g1, g2, g3, g4, g5⟩ := rows_of (w := w) (a := a) (k := P.cellsOf u) (e := e) (tr := DataW.trod enc P w 0 sp held m u) h1 (fun cs x hx => ih.1 u m cs x h3 hx) elems 0 (fun i hi => by rw [Nat.zero_add]; exact hel i (by omega))
    refine ⟨ys, g2, ?_⟩
    have := Rd.sl (w := w) (O := fun b => b < w.heap.size) (rows := ys.map e.enc) (a := some a) (c := cap) (inner := inner) (ts := []) (vs := []) e.n ⟨by rw [List.length_map, g1]; omega, hcm⟩ h2 (fun r hr => by
      obtain ⟨y, _, rfl⟩ := List.mem_map.1 hr
      exact Ty.enc_len e y) (fun hp => by
      rw [List.length_map, g1] at hp
      have hin : 0 < inner.length := by rw [g4, h1]; exact Nat.mul_pos hp h2
      have hc := g5 0 inner[0] (List.getElem?_eq_getElem hin)
      simp only [Nat.zero_mul, Nat.zero_add] at hc
      have ha : a.add 0 = a := by simp [Addr.add]
      rw [ha] at hc
      have hs : a.spot = none := by
       unfold World.cell? at hc
       split at hc
       ·split at hc
        ·cases hc
        ·rename_i hsp; simpa using hsp
       ·cases hc
      refine ⟨a.block, a.off, by rw [← hs], World.block_lt_of_cell? w _ hc, fun j u hj => ?_⟩
      have := g5 j u hj
      rw [Nat.zero_mul, Nat.zero_add] at this
      have e1 : a.add j = ⟨a.block, a.off + j, none⟩ := by
       unfold Addr.add
       split
       ·rename_i h0; subst h0; rw [Nat.add_zero, ← hs]
       ·rfl
      rwa [e1] at this) g3 .nil
    rw [List.length_map, g1, hlen] at this
    exact this
  ·cases hf
 | st b ih =>
  refine ⟨fun t n cs x hf h => ?_, fun fs off n cs xs hf => by simp [fitsF] at hf⟩
  unfold fits at hf
  split at hf
  ·rename_i fs hu
   simp only [Bool.and_eq_true, beq_iff_eq] at hf
   obtain ⟨h1, h2⟩ := hf
   obtain ⟨xs, m, rfl, -, hl, hxl, hx⟩ := DataW.trod_struct hu h
   obtain ⟨y, hy, hr⟩ := ih.2 fs.toList 0 m cs xs h2 (by simpa using hxl) (fun i f hi => hx i f (by simpa using hi))
   refine ⟨y, hy, ?_⟩
   rw [List.drop_zero, List.take_of_length_le (by omega)] at hr
   exact hr
  ·cases hf
 | nil =>
  refine ⟨fun t n cs x hf => by simp [fits] at hf, fun fs off n cs xs hf hl hx => ⟨(), trivial, ?_⟩⟩
  rw [show Ty.nil.n = 0 from rfl, List.take_zero]
  exact Rd.nil
 | cons a b iha ihb =>
  refine ⟨fun t n cs x hf => by simp [fits] at hf, fun fs off n cs xs hf hl hx => ?_⟩
  unfold fitsF at hf
  split at hf
  ·rename_i f fs'
   simp only [Bool.and_eq_true, beq_iff_eq] at hf
   obtain ⟨⟨⟨h1, h2⟩, h3⟩, h4⟩ := hf
   match xs, hl with
   | x0 :: xs', hl =>
    have h0 := hx 0 f rfl
    rw [List.getElem?_cons_zero] at h0
    obtain ⟨y1, k1, k2⟩ := iha.1 f.type n _ x0 h3 h0
    obtain ⟨y2, k3, k4⟩ := ihb.2 fs' (off + a.n) n cs xs' h4 (by simpa using hl) (fun i g hg => by
     have := hx (i + 1) g (by simpa using hg)
     simpa using this)
    refine ⟨(y1, y2), ⟨k1, k3⟩, ?_⟩
    have := k2.append k4
    rw [h1, h2] at this
    have e : (cs.drop off).take (a.n + b.n) = (cs.drop off).take a.n ++ (cs.drop (off + a.n)).take b.n := by
     rw [List.take_add, List.drop_drop]
    show Rd w _ (a.enc y1 ++ b.enc y2) ((cs.drop off).take (a.n + b.n))
    rw [e]
    exact this
  ·cases hf

theorem open_any {τ : Ty} {t : TypeId} {r : Go.Reach} {b0 : Nat} {v : Value} {d : DataW H} {ps : List MemPlace} (hf : fits P τ t = true) (hv : Value.okWide P w r b0 t v) (hd : DataW.Trod enc P w 0 sp held t v d ps) :
  ∃ y : τ.den, τ.ok y ∧ AVR W0 [] w (τ.av y) v := by
 obtain ⟨n, h⟩ := hd
 obtain ⟨y, h1, h2⟩ := (trodRd (enc := enc) (P := P) (w := w) (sp := sp) (held := held) τ).1 t n _ _ hf h
 refine ⟨y, h1, ?_⟩
 have h3 : Rd w (W0.out w) (τ.enc y) v.cells.toList := h2.mono fun b hb => ⟨⟨hb, fun _ h => h⟩, rfl⟩
 cases τ with
 | int =>
  unfold fits at hf
  split at hf
  ·rename_i hu
   obtain ⟨z, rfl⟩ := okWide_int hu hv
   exact h3.ar
  ·cases hf
 | bool =>
  unfold fits at hf
  split at hf
  ·rename_i hu
   obtain ⟨z, rfl⟩ := okWide_bool hu hv
   exact h3.ar
  ·cases hf
 | str =>
  unfold fits at hf
  split at hf
  ·rename_i hu
   obtain ⟨z, rfl⟩ := okWide_string hu hv
   exact h3.ar
  ·cases hf
 | sl e =>
  unfold fits at hf
  split at hf
  ·rename_i u hu
   obtain ⟨a, l, c, rfl⟩ := okWide_slice hu hv
   exact h3.ar
  ·cases hf
 | st b =>
  unfold fits at hf
  split at hf
  ·rename_i fs hu
   obtain ⟨cs, rfl, -⟩ := okWide_struct hu hv
   exact ⟨cs.toList, rfl, h3.ar⟩
  ·cases hf
 | nil => simp [fits] at hf
 | cons a b => simp [fits] at hf
end

theorem AVs.nil {W : Wit} {R : List Res} {w : World} : AVs W R w [] [] := ⟨rfl, by simp⟩
theorem AVs.cons {W : Wit} {R : List Res} {w : World} {x : AV} {v : Value} {xs : List AV} {vs : List Value} (h : AVR W R w x v) (k : AVs W R w xs vs) : AVs W R w (x :: xs) (v :: vs) :=
 ⟨by simp [k.1], fun i y u hy hu => by
  cases i with
  | zero =>
   obtain rfl : x = y := by simpa using hy
   obtain rfl : v = u := by simpa using hu
   exact h
  | succ i => exact k.2 i y u (by simpa using hy) (by simpa using hu)⟩

/-! ### 2. A law's function, called over its arguments -/
theorem law_calls {P : Program} {f : FuncId} {args : List AV} {vals : List Value} {w : World} (h : EFn P f args [] (fun r S => r = .c (.sc (.bool true)) ∧ S = [])) (ha : AVs W0 [] w args vals) :
  Calls P f vals.toArray w fun e w' => e = .returned (.bool true) ∧ Below w.heap.size w w' := by
 refine (h w W0 vals ha (Sep.none w)).mono ?_
 rintro e w' ⟨r, S, V, ⟨rfl, rfl⟩, ⟨v, rfl, k2⟩, k3, k4⟩
 refine ⟨?_, ⟨k4.os, k4.tape, k4.output, k4.size, fun b hb => k4.frame b ⟨hb, fun _ h => h⟩⟩⟩
 rw [AR.sc_inv k2]

end Go.Proofs.YthnadkagchbhbaaGreat.E

namespace Go.Proofs.YthnadkagchbhbaaGreat.E
open Go Go.RowKit
set_option linter.unusedVariables false
set_option linter.unusedSimpArgs false

/-! ### 1. Structs of whole numbers -/
section
variable {P : Program} {N : Nat} {s : Slots} {R : List Res} {K : Slots → List Res → Prop}

/-- What is no longer needed is let go, what is held is told shortly. -/
theorem E_tidy {c : Code} {Q : Exit → Slots → List Res → Prop} (keep : List Nat) {base : Slots} {R' : List Res} (hb : keepOf s keep = base) (hR : R = R') (h : ECode P N c base R' Q) : ECode P N c s R Q := by
 subst hR
 subst hb
 exact ECode.sub (keep_sub s keep).sub h

/-! ### 2. A slice compared with nil: either answer; if it is nil, there is nothing in it -/
theorem H_nil {o : Oper} {d t t' e : Nat} {x : Operand} {rows : List (List T)} (ho : o.op = .binOp .eql t x (.const (.slice none 0 0)) t') (hd : o.dst = some d) (hN : d < N) (ht : isSlice P t = some e) (hx : ev s x = .c (.ro rows))
  (h : ∀ b : Bool, (b = true → rows = []) → K ((d, .c (.sc (.bool b))) :: s) R) : Heavy P N o s R K := by
 intro Q a w W hn
 have hv := hn.ev x
 rw [hx] at hv
 have : ∃ ad n c, a.eval x = .slice ad n c ∧ (ad = none → rows = []) := by
  cases hv with
  | ro h1 _ =>
   generalize hq : a.eval x = q at h1
   cases h1 with
   | @sl rows a' c inner ts vs k g1 g2 g3 g4 g5 g6 =>
    refine ⟨a', rows.length, c, rfl, fun e => ?_⟩
    rcases Nat.eq_zero_or_pos rows.length with h0 | h0
    ·exact List.length_eq_zero_iff.1 h0
    ·obtain ⟨b, o', e', _⟩ := g4 h0; rw [e] at e'; cases e'
 obtain ⟨ad, n, c, e1, e2⟩ := this
 unfold Oper.wp
 have hr : (execOp a.eval o).run P w = .ok (.value (.bool ad.isNone)) w := by
  have hb : (binOp .eql t (.slice ad n c) (.slice none 0 0)).run P w = .ok (.bool ad.isNone) w := by
   simp only [binOp]
   simp [run_equal_slice_nil w t e ad n c (isSlice_of ht)]
  have hg : (eqGuard .eql t x (.const (.slice none 0 0)) (.slice ad n c) (.slice none 0 0)).run P w = .ok () w := by simp [eqGuard]
  have hc : a.eval (.const (.slice none 0 0)) = .slice none 0 0 := rfl
  simp only [execOp, ho, e1, hc, Sem.run_bind, hg, hb, Result.andThen_ok]
  rfl
 rw [hr, Oper.upon_value, hd]
 exact ⟨Below.refl _ _, _, R, W, h ad.isNone (fun hb => e2 (by cases ad <;> simp_all)), hn.put hN (AR.sc1 rfl), .refl ..⟩
end
end Go.Proofs.YthnadkagchbhbaaGreat.E

namespace Go.Proofs.YthnadkagchbhbaaGreat.E
open Go Go.RowKit
set_option linter.unusedVariables false
set_option linter.unusedSimpArgs false

section
variable {P : Program} {N : Nat} {s : Slots} {R : List Res} {K : Slots → List Res → Prop}

/-! ### 1. append -/
theorem run_append_zero {w : World} {t ty e k : Nat} {b : Bool} (ht : P.underlying t = some (.slice e)) (hty : tyIs P e = some (b, k)) {v : Value} {n : Nat} {xs : List Value} (hown : w.ownsRow 0 e k v n xs) (a : Option Addr) (c : Nat) :
  (Builtin.append_ #[t, t] ty #[v, .slice a 0 c]).run P w = .ok v w := by
 obtain ⟨d, i, h1, _, h2, h3⟩ := tyIs_parts hty
 rcases hown.2 with ⟨rfl, rfl⟩ | ⟨g, cap, cur, rfl, _, _, hnc, _⟩
 ·cases a <;> simp [Builtin.append_, run_underlying ht, sizeOf, typeInfo, h2, Builtin.lenOf, Builtin.firstCells, loadCells, loadCellsFrom]
 ·cases a <;> simp [Builtin.append_, run_underlying ht, sizeOf, typeInfo, h2, Builtin.lenOf, Builtin.firstCells, hnc, storeCells, loadCells, loadCellsFrom]

/-- What is appended, read. -/
theorem src_of {a : Act} {w : World} {W : Wit} {y : Operand} {news : List (List T)} {k : Nat} (hn : Now N s R a w W) (hy : E.lend R (ev s y) = .c (.ro news)) (hnews : ∀ r ∈ news, r.length = k ∧ r.all isSc = true) :
  ∃ ad c inner, a.eval y = .slice ad news.length c ∧ inner.length = news.length * k ∧ (0 < news.length → ∃ b o, ad = some ⟨b, o, none⟩ ∧ ∀ j u, inner[j]? = some u → w.cell? ⟨b, o + j, none⟩ = some u) ∧
   (∀ u ∈ inner, u.oneCell' = true) ∧ (∀ w', Ow w' news.flatten inner (fun _ => False)) := by
 have hv := (hn.ev y).lend hn.sep
 rw [hy] at hv
 have h1 : AR W0 [] w [.ro news] [a.eval y] := hv
 cases h1 with
 | ro h2 _ =>
  generalize hq : a.eval y = q at h2
  cases h2 with
  | @sl rows ad c inner ts vs k' g1 g2 g3 g4 g5 g6 =>
   refine ⟨ad, c, inner, rfl, ?_, fun hp => ?_, g5.one, fun w' => ?_⟩
   ·rw [← g5.length, flatten_len (k := k) (fun r hr => (hnews r hr).1)]
   ·obtain ⟨b, o, e, _, hc⟩ := g4 hp
    exact ⟨b, o, e, hc⟩
   ·have hall : news.flatten.all isSc = true := by
     rw [List.all_eq_true]
     intro x hx
     obtain ⟨r, hr, hx⟩ := List.mem_flatten.1 hx
     exact List.all_eq_true.1 (hnews r hr).2 x hx
    have := Ow.scs g5 hall
    exact this.mono fun b hb => hb.elim

theorem EOp_append {o : Oper} {d t e k bytes i n : Nat} {x y : Operand} {bb : Bool} {zs : List AC} {rows news : List (List T)} (ho : o.op = .call { callee := .builtin .append, args := #[x, y], argTypes := #[t, t] }) (hd : o.dst = some d) (hN : d < N)
  (ht : isSlice P t = some e) (hty : tyIs P e = some (bb, k)) (hby : (P.info? e).map (·.bytes) = some bytes) (hz : zav P e = some zs) (hzl : zs.length = k ∧ 0 < k) (hx : ev s x = .c (.sl i 0 n n)) (hR : R[i]? = some (.row e k rows)) (hn : rows.length = n)
  (hy : E.lend R (ev s y) = .c (.ro news)) (hnews : ∀ r ∈ news, r.length = k ∧ r.all isSc = true) (hsz : n + news.length ≤ 9223372036854775807 ∧ (n + news.length) * bytes ≤ 140737488355328)
  (h : K ((d, .c (.sl i 0 (n + news.length) (n + news.length))) :: s) (R.set i (.row e k (rows ++ news)))) : EOp P N o s R K := by
 intro Q a w W hn'
 have hi : i < R.length := by
  rcases Nat.lt_or_ge i R.length with h' | h'
  ·exact h'
  ·rw [List.getElem?_eq_none h'] at hR; cases hR
 obtain ⟨ad, c, inner, e1, e2, e3, e4, e5⟩ := src_of hn' hy hnews
 obtain ⟨inf, z, z1, z2, z3, z4, rfl, z6⟩ := by_parts hty hby hz
 have hzk : z.cells.size = k := by have := hzl.1; simpa using this
 have hxv := hn'.ev x
 rw [hx] at hxv
 obtain ⟨f1, f2, cells, G, f3, f4, f5, f6⟩ := hn'.sep.res i _ hR
 have hv : a.eval x = W.hs i := by
  cases hxv with
  | sl h1 h2 h3 _ =>
   obtain ⟨ad', n', c', k1, k2, k3⟩ := (h3 _ _ _ hR).2 hn
   obtain ⟨ad2, c2, g1, g2, g3, _, g4⟩ := ownsRow_reads f3
   rcases k3 with k3 | ⟨rfl, h0, _⟩
   ·rw [k1] at g1
    obtain ⟨rfl, rfl, rfl⟩ : ad' = ad2 ∧ n' = rows.length ∧ c' = c2 := by cases g1; exact ⟨rfl, rfl, rfl⟩
    rw [k3, k1, hn]
    simp only [Nat.zero_mul, Nat.sub_zero]
    congr 1
    cases ad' with
    | none => rfl
    | some q =>
     rcases f3.2 with ⟨g5, _⟩ | ⟨g, cap, cur, g5, _⟩
     ·rw [k1] at g5; cases g5
     ·rw [k1] at g5
      have : q = ⟨g, 0, none⟩ := by cases g5; rfl
      rw [this]; rfl
   ·omega
 have hrun : ∀ v' w', (Builtin.append_ #[t, t] o.type #[W.hs i, .slice ad news.length c]).run P w = .ok v' w' → (execOp a.eval o).run P w = .ok (.value v') w' := fun v' w' hr => by
  simp only [execOp, ho, resolve, Sem.run_bind, Sem.run_pure, Result.andThen_ok, invoke, builtin]
  simp only [List.map_toArray, List.map_cons, List.map_nil, hv, e1, hr, Result.andThen_ok]
 unfold Oper.wp
 by_cases h0 : news = []
 ·subst h0
  rw [hrun _ _ (run_append_zero (isSlice_of ht) hty f3 ad c), Oper.upon_value, hd]
  have e0 : R.set i (.row e k (rows ++ [])) = R := by
   rw [List.append_nil]
   apply List.ext_getElem?
   intro j
   by_cases hj : i = j
   ·subst hj; rw [List.getElem?_set_self hi, hR]
   ·rw [List.getElem?_set_ne hj]
  rw [e0] at h
  exact ⟨_, R, W, h, hn'.put hN (by
   show AVR W R w (.c (.sl i 0 (n + 0) (n + 0))) (W.hs i)
   rw [← hv]; exact hxv), .refl ..⟩
 ·have hpos : 0 < news.length := List.length_pos_iff.2 h0
  obtain ⟨b, oo, rfl, hc⟩ := e3 hpos
  obtain ⟨v', w', r1, r2, r3, r4, r5⟩ := run_append_own_at (P := P) w 0 t o.type e inf z k bytes (isSlice_of ht) z1 z2 z3 z4 hzk hzl.2 (W.hs i) rows.length cells f3 ⟨b, oo, none⟩ news.length c inner e2 (fun j u hj => by rw [add_plain]; exact hc j u hj) e4 (by rw [hn]; unfold maxLen; omega) (by rw [hn]; exact hsz.2) (Nat.zero_le _)
  rw [hrun _ _ r1, Oper.upon_value, hd]
  have hGlt : ∀ b, G b → b < w.heap.size := fun b hb => hn'.sep.lt i b ((f6 b).2 (.inr hb))
  let W' : Wit := ⟨fun j => if j = i then v' else W.hs j, fun j => if j = i then (fun b => v'.ownBlock = some b ∨ G b) else W.fs j⟩
  have wh : W'.hs i = v' := by simp [W']
  have wf : W'.fs i = fun b => v'.ownBlock = some b ∨ G b := by simp [W']
  have wh' : ∀ j, j ≠ i → W'.hs j = W.hs j := fun j hj => by simp [W', hj]
  have wf' : ∀ j, j ≠ i → W'.fs j = W.fs j := fun j hj => by simp [W', hj]
  have hblk : ∀ c, c < w.heap.size → ¬ W.fs i c → w'.heap[c]? = w.heap[c]? := fun c hc1 hc2 => r3.block c hc1 fun e => hc2 ((f6 c).2 (.inl e.symm))
  have hvlt : ∀ b, v'.ownBlock = some b → W.fs i b ∨ w.heap.size ≤ b := fun b hb => by
   rcases r5 with r5 | r5
   ·rw [r5] at hb; exact .inl ((f6 b).2 (.inl hb))
   ·rw [r5] at hb; cases hb; exact .inr (Nat.le_refl _)
  have tr : Trans w W R w' W' (R.set i (.row e k (rows ++ news))) := by
   refine ⟨r3.os, r3.tape, r3.output, r3.size, fun c hc' => hblk c hc'.1 (hc'.2 i), fun j c hj => ?_, fun j => ?_⟩
   ·by_cases e : j = i
    ·subst e
     rw [wf] at hj
     rcases hj with hj | hj
     ·rcases hvlt c hj with h' | h'
      ·exact .inl ⟨_, h'⟩
      ·exact .inr h'
     ·exact .inl ⟨_, (f6 c).2 (.inr hj)⟩
    ·rw [wf' j e] at hj; exact .inl ⟨j, hj⟩
   ·by_cases e' : i = j
    ·subst e'
     rw [List.getElem?_set_self hi, hR]
     exact ⟨rfl, rfl, by simp, fun e => by simp at e; exact absurd e h0⟩
    ·rw [List.getElem?_set_ne e', wh' j (Ne.symm e')]
     exact Goes.refl _ _
  have hres : ResRel w' W' (R.set i (.row e k (rows ++ news))) v' (fun b => v'.ownBlock = some b ∨ G b) (.row e k (rows ++ news)) := by
   refine ⟨f1, fun r hr => by rcases List.mem_append.1 hr with hr | hr; exact f2 r hr; exact (hnews r hr).1, cells ++ inner, G, by rw [List.length_append]; exact r2, ?_, fun b hb hg => ?_, fun b => Iff.rfl⟩
   ·rw [List.flatten_append]
    have hm : Ow w' rows.flatten cells G := f4.mono fun b hb => r3.block b (hGlt b hb) fun e => f5 b e.symm hb
    obtain ⟨H, k1, k2⟩ := hm.append (e5 w') (fun b _ h => h)
    have : H = G := by funext b; exact propext ((k2 b).trans (by simp))
    rw [this] at k1; exact k1
   ·rcases r5 with r5 | r5
    ·rw [r5] at hb; exact f5 b hb hg
    ·rw [r5] at hb; cases hb; exact absurd (hGlt _ hg) (Nat.lt_irrefl _)
  have sp : Sep w' W' (R.set i (.row e k (rows ++ news))) :=
   hn'.sep.step tr i (fun j h1 _ => by simpa using h1) (fun j h1 _ => List.getElem?_set_ne (Ne.symm h1)) wh' (fun j h1 b => by rw [wf' j h1]) (fun j h1 c hc' => hblk c (hn'.sep.lt j c hc') fun e => h1 (hn'.sep.apart j i c hc' e))
    (fun q hq => by
     rw [List.getElem?_set_self hi] at hq
     obtain rfl := Option.some.inj hq
     rw [wh, wf]; exact hres)
    (fun b hb => by
     rw [wf] at hb
     rcases hb with hb | hb
     ·exact hvlt b hb
     ·exact .inl ((f6 b).2 (.inr hb)))
    (fun b hb => by
     rw [wf] at hb
     rcases hb with hb | hb
     ·exact (r2.lt b hb).2
     ·exact Nat.lt_of_lt_of_le (hGlt b hb) r3.size)
    (fun h' => absurd hi (by simp at h'; omega)) (fun h' => by rw [List.getElem?_set_self hi] at h'; cases h')
  exact ⟨_, _, W', h, (hn'.next tr sp).put hN (sl_whole (e := e) (k := k) (rows := rows ++ news) (List.getElem?_set_self hi) (by rw [List.length_append, hn]) wh (by
   rcases r2.2 with ⟨rfl, _⟩ | ⟨g, cap, cur, rfl, _⟩ <;> rfl) sp), tr⟩
end
end Go.Proofs.YthnadkagchbhbaaGreat.E

namespace Go.Proofs.YthnadkagchbhbaaGreat.E
open Go Go.RowKit
set_option linter.unusedVariables false
set_option linter.unusedSimpArgs false

section
variable {P : Program} {N : Nat} {s : Slots} {R : List Res} {K : Slots → List Res → Prop}

/-! ### A row written out -/
def chunk (k : Nat) : Nat → List Value → List (List T)
 | 0, _ => []
 | n + 1, xs => (xs.take k).map T.sc :: chunk k n (xs.drop k)

theorem chunk_parts {k : Nat} : ∀ (n : Nat) (xs : List Value), xs.length = n * k → (chunk k n xs).length = n ∧ (∀ r ∈ chunk k n xs, r.length = k) ∧ (chunk k n xs).flatten = xs.map T.sc
 | 0, xs, h => by
  obtain rfl : xs = [] := List.eq_nil_of_length_eq_zero (by simpa using h)
  simp [chunk]
 | n + 1, xs, h => by
  rw [Nat.add_mul, Nat.one_mul] at h
  obtain ⟨h1, h2, h3⟩ := chunk_parts (k := k) n (xs.drop k) (by rw [List.length_drop]; omega)
  refine ⟨by simp [chunk, h1], fun r hr => ?_, ?_⟩
  ·rcases List.mem_cons.1 hr with rfl | hr
   ·simp; omega
   ·exact h2 r hr
  ·show ((xs.take k).map T.sc) ++ (chunk k n (xs.drop k)).flatten = _
   rw [h3, ← List.map_append, List.take_append_drop]

theorem AR.rep {W : Wit} {R : List Res} {w : World} {cs : List AC} {vs : List Value} (h : AR W R w cs vs) : ∀ n, AR W R w (List.replicate n cs).flatten (List.replicate n vs).flatten
 | 0 => (AR.nil : AR W R w [] [])
 | n + 1 => by
  rw [List.replicate_succ, List.replicate_succ, List.flatten_cons, List.flatten_cons]
  exact h.append (AR.rep h n)

theorem H_bslice {o : Oper} {d t e k n : Nat} {bb : Bool} {zs : List AC} {parts : Array (Nat × Operand)} {ps : List (Nat × List AC)} {ys : List AC} {xs : List Value} (ho : o.op = .buildSlice t n parts) (hd : o.dst = some d) (hN : d < N)
  (ht : isSlice P t = some e) (hty : tyIs P e = some (bb, k)) (hz : zav P e = some zs) (hzl : zs.length = k ∧ 0 < k) (hn : n * k ≤ 16777216) (hp : partsOf s parts.toList = some ps)
  (hf : fillA ((List.range n).map fun i => (i * k, k)) (List.replicate n zs).flatten ps = some ys) (hm : ys.mapM act = some xs) (hl : xs.length = n * k)
  (h : K ((d, .c (.sl R.length 0 n n)) :: s) (R ++ [.row e k (chunk k n xs)])) : Heavy P N o s R K := by
 intro Q a w W hn'
 obtain ⟨z, hz1, hz2⟩ : ∃ z : Value, (∀ w', (zeroValue e).run P w' = .ok z w') ∧ zs = z.cells.toList.map AC.sc ∧ z.cells.toList.all (·.oneCell') = true := by
  obtain ⟨dd, i, h1, _, h2, h3⟩ := tyIs_parts hty
  unfold zav at hz
  rw [h2] at hz
  simp only [Option.bind_some] at hz
  cases hi : i.zero with
  | none => rw [hi] at hz; cases hz
  | some z =>
   rw [hi] at hz
   simp only at hz
   split at hz
   ·rename_i ha
    exact ⟨z, fun w' => by simp [zeroValue, typeInfo, h2, hi], (Option.some.inj hz).symm, ha⟩
   ·cases hz
 obtain ⟨rfl, hz3⟩ := hz2
 have hzk : z.cells.size = k := by have := hzl.1; simpa using this
 have hcells : (madeCells z.cells (n * k)).toList = (List.replicate n z.cells.toList).flatten := by rw [← hzk]; exact madeCells_flat _ _
 have har : AR W R w (List.replicate n (z.cells.toList.map AC.sc)).flatten (madeCells z.cells (n * k)).toList := by
  rw [hcells]
  exact (AR.scs hz3).rep n
 obtain ⟨out, k1, k2⟩ := fill_run (place := fun i => some (i * k, k)) (fun i x hx => by
  rw [List.getElem?_map] at hx
  cases hr : (List.range n)[i]? with
  | none => rw [hr] at hx; cases hx
  | some j =>
   rw [hr] at hx
   obtain rfl : i = j := by
    obtain ⟨h1, h2⟩ := List.getElem?_eq_some_iff.1 hr
    simpa using h2
   exact hx) hn' hp hf har
 obtain ⟨hxs, hone⟩ := mapM_act hm k2
 obtain ⟨c1, c2, c3⟩ := chunk_parts n xs hl
 have hsz : out.size = n * k := by rw [← Array.length_toList, hxs, hl]
 have hown : (w.alloc (.cells out e)).ownsRow 0 e k (.slice (some ⟨w.heap.size, 0, none⟩) n n) (chunk k n xs).length xs := by
  have := World.ownsRow_lit (base := 0) (size := k) (e := e) w out n (Nat.zero_le _) (by have h0 := hzl.2; have : n ≤ n * k := Nat.le_mul_of_pos_right n h0; unfold maxLen; omega) hsz
  rw [hxs] at this
  rw [c1]; exact this
 obtain ⟨W', m1, m2, m3⟩ := hn'.sep.row (w' := w.alloc (.cells out e)) (rows := chunk k n xs) (cells := xs) (k := k) (e := e) (v := .slice (some ⟨w.heap.size, 0, none⟩) n n) rfl rfl rfl (by simp) (heap_alloc_lt w _) hzl.2 c2 hown (fun b hb => by cases hb; exact Nat.le_refl _) (by rw [c3]; exact Ow.scv hone)
 unfold Oper.wp
 have hr : (execOp a.eval o).run P w = .ok (.value (.slice (some ⟨w.heap.size, 0, none⟩) n n)) (w.alloc (.cells out e)) := by
  have hpt : (parts.map fun p => (p.1, a.eval p.2)).toList = parts.toList.map fun p => (p.1, a.eval p.2) := by simp
  have hle : ¬ n * k > 2 ^ 24 := by omega
  simp only [execOp, ho, Instr.buildSlice, Sem.run_bind, run_underlying_ (isSlice_of ht), Result.andThen_ok, run_sizeOf_ hty, if_neg hle, Sem.run_pure]
  by_cases h0 : n * k = 0
  ·have e0 : (Array.range (n * k)).map (fun i => (#[] : Array Value)[i % (#[] : Array Value).size]!) = madeCells z.cells (n * k) := by rw [h0]; apply Array.ext'; simp [madeCells]
   simp only [if_pos h0, Sem.run_pure, Result.andThen_ok, e0, hpt, k1, Sem.run_bind]
   rfl
  ·have e0 : (Array.range (n * k)).map (fun i => z.cells[i % z.cells.size]!) = madeCells z.cells (n * k) := rfl
   simp only [if_neg h0, Sem.run_bind, hz1, Sem.run_pure, Result.andThen_ok, e0, hpt, k1]
   rfl
 rw [hr, Oper.upon_value, hd]
 exact ⟨⟨rfl, rfl, rfl, by simp, fun b hb => heap_alloc_lt w _ b hb⟩, _, _, W', h, (hn'.next m1 m2).put hN (sl_whole (e := e) (k := k) (rows := chunk k n xs) (by simp) c1 m3 rfl m2), m1⟩

/-- The same, where nobody turns it: it is only read. -/
theorem V_bslice_ro {o : Oper} {t e k n : Nat} {KV : AV → List Res → Prop} {bb : Bool} {zs : List AC} {parts : Array (Nat × Operand)} {ps : List (Nat × List AC)} {ys : List AC} {xs : List Value} (ho : o.op = .buildSlice t n parts)
  (ht : isSlice P t = some e) (hty : tyIs P e = some (bb, k)) (hz : zav P e = some zs) (hzl : zs.length = k ∧ 0 < k) (hn : n * k ≤ 16777216) (hp : partsOf s parts.toList = some ps)
  (hf : fillA ((List.range n).map fun i => (i * k, k)) (List.replicate n zs).flatten ps = some ys) (hm : ys.mapM act = some xs) (hl : xs.length = n * k)
  (h : KV (.c (.ro (chunk k n xs))) R) : HeavyV P o s R KV := by
 intro N Q a w W hn'
 obtain ⟨z, hz1, hz2⟩ : ∃ z : Value, (∀ w', (zeroValue e).run P w' = .ok z w') ∧ zs = z.cells.toList.map AC.sc ∧ z.cells.toList.all (·.oneCell') = true := by
  obtain ⟨dd, i, h1, _, h2, h3⟩ := tyIs_parts hty
  unfold zav at hz
  rw [h2] at hz
  simp only [Option.bind_some] at hz
  cases hi : i.zero with
  | none => rw [hi] at hz; cases hz
  | some z =>
   rw [hi] at hz
   simp only at hz
   split at hz
   ·rename_i ha
    exact ⟨z, fun w' => by simp [zeroValue, typeInfo, h2, hi], (Option.some.inj hz).symm, ha⟩
   ·cases hz
 obtain ⟨rfl, hz3⟩ := hz2
 have hzk : z.cells.size = k := by have := hzl.1; simpa using this
 have hcells : (madeCells z.cells (n * k)).toList = (List.replicate n z.cells.toList).flatten := by rw [← hzk]; exact madeCells_flat _ _
 have har : AR W R w (List.replicate n (z.cells.toList.map AC.sc)).flatten (madeCells z.cells (n * k)).toList := by
  rw [hcells]
  exact (AR.scs hz3).rep n
 obtain ⟨out, k1, k2⟩ := fill_run (place := fun i => some (i * k, k)) (fun i x hx => by
  rw [List.getElem?_map] at hx
  cases hr : (List.range n)[i]? with
  | none => rw [hr] at hx; cases hx
  | some j =>
   rw [hr] at hx
   obtain rfl : i = j := by
    obtain ⟨h1, h2⟩ := List.getElem?_eq_some_iff.1 hr
    simpa using h2
   exact hx) hn' hp hf har
 obtain ⟨hxs, hone⟩ := mapM_act hm k2
 obtain ⟨c1, c2, c3⟩ := chunk_parts n xs hl
 have hsz : out.size = n * k := by rw [← Array.length_toList, hxs, hl]
 have hown : (w.alloc (.cells out e)).ownsRow 0 e k (.slice (some ⟨w.heap.size, 0, none⟩) n n) (chunk k n xs).length xs := by
  have := World.ownsRow_lit (base := 0) (size := k) (e := e) w out n (Nat.zero_le _) (by have h0 := hzl.2; have : n ≤ n * k := Nat.le_mul_of_pos_right n h0; unfold maxLen; omega) hsz
  rw [hxs] at this
  rw [c1]; exact this
 have tr : Trans w W R (w.alloc (.cells out e)) W R := ⟨rfl, rfl, rfl, by simp, fun b hb => heap_alloc_lt w _ b hb.1, fun i b hb => .inl ⟨i, hb⟩, fun i => Goes.refl _ _⟩
 have sp : Sep (w.alloc (.cells out e)) W R :=
  ⟨fun i r hr => (hn'.sep.res i r hr).next tr fun b hb => heap_alloc_lt w _ b (hn'.sep.lt i b hb), hn'.sep.out, hn'.sep.gone, hn'.sep.apart, fun i b hb => Nat.lt_of_lt_of_le (hn'.sep.lt i b hb) (by simp)⟩
 have hval : AVR W R (w.alloc (.cells out e)) (.c (.ro (chunk k n xs))) (.slice (some ⟨w.heap.size, 0, none⟩) n n) := by
  have hrd : Rd (w.alloc (.cells out e)) (W.out (w.alloc (.cells out e))) (chunk k n xs).flatten xs := by
   rw [c3]; exact (Ow.scv hone).rd fun b hb => hb.elim
  have := Rd.sl (w := w.alloc (.cells out e)) (O := W.out (w.alloc (.cells out e))) (rows := chunk k n xs) (a := some ⟨w.heap.size, 0, none⟩) (c := n) (inner := xs) (ts := []) (vs := []) k ⟨by rw [c1]; exact Nat.le_refl _, by have h0 := hzl.2; have : n ≤ n * k := Nat.le_mul_of_pos_right n h0; unfold maxLen; omega⟩ hzl.2 c2 (fun _ => ⟨w.heap.size, 0, rfl, ⟨by simp, fun i hi => Nat.lt_irrefl _ (hn'.sep.lt i _ hi)⟩, fun j u hj => by
   have hj' : out[j]? = some u := by rw [← Array.getElem?_toList, hxs]; exact hj
   have hc : (w.alloc (.cells out e)).cell? ⟨w.heap.size, 0 + j, none⟩ = out[0 + j]? := by unfold World.cell?; rw [heap_alloc_self]; rfl
   rw [hc, Nat.zero_add]; exact hj'⟩) hrd .nil
  rw [c1] at this
  exact AR.ro this .nil
 unfold Oper.wp
 have hr : (execOp a.eval o).run P w = .ok (.value (.slice (some ⟨w.heap.size, 0, none⟩) n n)) (w.alloc (.cells out e)) := by
  have hpt : (parts.map fun p => (p.1, a.eval p.2)).toList = parts.toList.map fun p => (p.1, a.eval p.2) := by simp
  have hle : ¬ n * k > 2 ^ 24 := by omega
  simp only [execOp, ho, Instr.buildSlice, Sem.run_bind, run_underlying_ (isSlice_of ht), Result.andThen_ok, run_sizeOf_ hty, if_neg hle, Sem.run_pure]
  by_cases h0 : n * k = 0
  ·have e0 : (Array.range (n * k)).map (fun i => (#[] : Array Value)[i % (#[] : Array Value).size]!) = madeCells z.cells (n * k) := by rw [h0]; apply Array.ext'; simp [madeCells]
   simp only [if_pos h0, Sem.run_pure, Result.andThen_ok, e0, hpt, k1, Sem.run_bind]
   rfl
  ·have e0 : (Array.range (n * k)).map (fun i => z.cells[i % z.cells.size]!) = madeCells z.cells (n * k) := rfl
   simp only [if_neg h0, Sem.run_bind, hz1, Sem.run_pure, Result.andThen_ok, e0, hpt, k1]
   rfl
 rw [hr, Oper.upon_value]
 exact ⟨⟨rfl, rfl, rfl, by simp, fun b hb => heap_alloc_lt w _ b hb⟩, _, R, W, _, h, rfl, hval, tr, sp⟩
theorem H_bslice_ro {o : Oper} {d t e k n : Nat} {bb : Bool} {zs : List AC} {parts : Array (Nat × Operand)} {ps : List (Nat × List AC)} {ys : List AC} {xs : List Value} (ho : o.op = .buildSlice t n parts) (hd : o.dst = some d) (hN : d < N)
  (ht : isSlice P t = some e) (hty : tyIs P e = some (bb, k)) (hz : zav P e = some zs) (hzl : zs.length = k ∧ 0 < k) (hn : n * k ≤ 16777216) (hp : partsOf s parts.toList = some ps)
  (hf : fillA ((List.range n).map fun i => (i * k, k)) (List.replicate n zs).flatten ps = some ys) (hm : ys.mapM act = some xs) (hl : xs.length = n * k)
  (h : K ((d, .c (.ro (chunk k n xs))) :: s) R) : Heavy P N o s R K :=
 HeavyV.heavy (fun d' hd' => by rw [hd] at hd'; cases hd'; exact hN) (V_bslice_ro ho ht hty hz hzl hn hp hf hm hl (by rw [hd]; exact h))
end

/-! ### A callee that turns rows of its caller's -/
theorem AR.tops {W : Wit} {R : List Res} {w : World} {cs : List AC} {vs : List Value} (h : AR W R w cs vs) : AC.top.tops cs ≤ R.length := by
 induction h with
 | nil => exact Nat.zero_le _
 | sc _ _ ih => simpa [AC.top.tops, AC.top] using ih
 | any _ _ ih => simpa [AC.top.tops, AC.top] using ih
 | ro _ _ ih => simpa [AC.top.tops, AC.top] using ih
 | rp _ _ _ _ _ _ _ _ ih => simpa [AC.top.tops, AC.top] using ih
 | sl _ h2 _ _ ih => simp only [AC.top.tops, AC.top]; omega
 | bp _ h2 _ _ ih => simp only [AC.top.tops, AC.top]; omega
 | ep _ h2 _ _ ih => simp only [AC.top.tops, AC.top]; omega
 | fn _ _ ih1 ih2 => simp only [AC.top.tops, AC.top]; omega

mutual
theorem ren_id {n : Nat} {σ : List Nat} : ∀ (c : AC), c.top ≤ n → c.ren n σ = c
 | .sc _, _ => rfl
 | .ro _, _ => rfl
 | .rp _, _ => rfl
 | .any, _ => rfl
 | .sl i _ _ _, h => by simp only [AC.top] at h; simp only [AC.ren, show i < n by omega, if_true]
 | .bp i _, h => by simp only [AC.top] at h; simp only [AC.ren, show i < n by omega, if_true]
 | .ep i _ _ _, h => by simp only [AC.top] at h; simp only [AC.ren, show i < n by omega, if_true]
 | .fn f caps, h => by simp only [AC.top] at h; simp only [AC.ren, rens_id (n := n) (σ := σ) caps h]
theorem rens_id {n : Nat} {σ : List Nat} : ∀ (cs : List AC), AC.top.tops cs ≤ n → AC.ren.rens n σ cs = cs
 | [], _ => rfl
 | c :: cs, h => by
  simp only [AC.top.tops] at h
  simp only [AC.ren.rens, ren_id (n := n) (σ := σ) c (by omega), rens_id (n := n) (σ := σ) cs (by omega)]
end

/-- Are the variables as they were? -/
def Res.told : Res → Bool
 | .box _ => true
 | .pin _ _ => true
 | _ => false
def sameBox (n : Nat) (R R' : List Res) : Prop := n ≤ R'.length ∧ ∀ i r, i < n → r.told = true → R'[i]? = some r → R[i]? = some r

def RetM (P : Program) (rs : List ResultVar) (R0 : List Res) (Q : AV → List Res → Prop) : Exit → Slots → List Res → Prop
 | .normal, s, R => ∃ y, resv P R s rs = some y ∧ sameBox R0.length R0 R ∧ Q (y.ren R0.length []) (R.take R0.length)
 | .ret, s, R => ∃ y, resv P R s rs = some y ∧ sameBox R0.length R0 R ∧ Q (y.ren R0.length []) (R.take R0.length)
 | _, _, _ => False

theorem E_fnM {P : Program} {f : FuncId} {fn : Func} {c : Code} {args : List AV} {R : List Res} {Q : AV → List Res → Prop} (hf : P.funcs[f]? = some fn) (hb : fn.body = some c) (ha : args.length ≤ fn.ntmps)
  (h : ECode P fn.ntmps c (slotsOf 0 args) R (RetM P fn.results.toList R Q)) : EFn P f args R Q := by
 intro w W vals hv hs
 refine E_fn (R := R) (Q := Q) hf hb ha (?_ : ECode P fn.ntmps c (slotsOf 0 args) R _) w W vals hv hs
 refine h.mono fun e s' R' hq => ?_
 have fin : (∃ y, resv P R' s' fn.results.toList = some y ∧ sameBox R.length R R' ∧ Q (y.ren R.length []) (R'.take R.length)) → ∃ y σ, resv P R' s' fn.results.toList = some y ∧ okσ R.length R' σ = true ∧ Q (y.ren R.length σ) (reR R.length σ R') := by
  rintro ⟨y, h1, ⟨h2, h3⟩, h4⟩
  refine ⟨y, [], h1, rfl, ?_⟩
  have : reR R.length [] R' = R'.take R.length := by
   unfold reR
   rw [List.map_nil, List.append_nil]
   apply List.ext_getElem?
   intro i
   rw [List.getElem?_map]
   cases hi : (R'.take R.length)[i]? with
   | none => rfl
   | some r =>
    have hlt : i < R.length := by
     rw [List.getElem?_take] at hi
     split at hi
     ·assumption
     ·cases hi
    rw [List.getElem?_take, if_pos hlt] at hi
    cases r with
    | box cs =>
     obtain ⟨b, arr, e, _, _, _, har⟩ := hs.res i _ (h3 i (.box cs) hlt rfl hi)
     simp only [Option.map_some, Res.ren, rens_id cs har.tops]
    | row e k rows => rfl
    | gone => rfl
    | pin x u =>
     obtain ⟨_, har⟩ := hs.res i _ (h3 i (.pin x u) hlt rfl hi)
     have e1 := rens_id (σ := []) [x] har.tops
     simp only [AC.ren.rens, List.cons.injEq, and_true] at e1
     simp only [Option.map_some, Res.ren, e1]
  rw [this]
  exact h4
 cases e with
 | normal => exact fin hq
 | ret => exact fin hq
 | exit id => exact hq.elim
 | goto l => exact hq.elim
 | panic ch => exact hq.elim
 | outgrown => exact hq.elim

end Go.Proofs.YthnadkagchbhbaaGreat.E

namespace Go.Proofs.YthnadkagchbhbaaGreat.E
open Go Go.RowKit
set_option linter.unusedVariables false
set_option linter.unusedSimpArgs false

def isNil : AC → Bool
 | .sc (.slice none 0 0) => true
 | _ => false
theorem isNil_eq {c : AC} (h : isNil c = true) : c = .sc (.slice none 0 0) := by
 unfold isNil at h
 split at h
 ·rfl
 ·cases h

def gh (n : Nat) : List AC → List (Option (Nat × Nat)) → List AC × List Res
 | [], _ => ([], [])
 | c :: cs, [] => (c :: cs, [])
 | c :: cs, g :: l => match isNil c, g with
  | true, some x => (.sl n 0 0 0 :: (gh (n + 1) cs l).1, .row x.1 x.2 [] :: (gh (n + 1) cs l).2)
  | _, _ => (c :: (gh n cs l).1, (gh n cs l).2)

def okl : List (Option (Nat × Nat)) → Bool
 | [] => true
 | some (_, k) :: l => decide (0 < k) && okl l
 | none :: l => okl l

theorem AR.cons_inv {W : Wit} {R : List Res} {w : World} {c : AC} {cs : List AC} {v : Value} {vs : List Value} (h : AR W R w (c :: cs) (v :: vs)) : AR W R w [c] [v] ∧ AR W R w cs vs :=
 ⟨by have := h.take 1; simpa using this, by have := h.drop 1; simpa using this⟩

theorem AR.cons_mk {W : Wit} {R : List Res} {w : World} {c : AC} {cs : List AC} {v : Value} {vs : List Value} (h : AR W R w [c] [v]) (k : AR W R w cs vs) : AR W R w (c :: cs) (v :: vs) := h.append k

theorem AR.ghost {w : World} : ∀ (cs : List AC) (l : List (Option (Nat × Nat))) (vs : List Value) (W : Wit) (R : List Res), okl l = true → Sep w W R → AR W R w cs vs →
  ∃ W', Trans w W R w W' (R ++ (gh R.length cs l).2) ∧ Sep w W' (R ++ (gh R.length cs l).2) ∧ AR W' (R ++ (gh R.length cs l).2) w (gh R.length cs l).1 vs
 | [], l, vs, W, R, _, hs, h => by
  simp only [gh, List.append_nil]
  exact ⟨W, .refl .., hs, h⟩
 | c :: cs, [], vs, W, R, _, hs, h => by
  simp only [gh, List.append_nil]
  exact ⟨W, .refl .., hs, h⟩
 | c :: cs, g :: l, vs, W, R, hk, hs, h => by
  match vs, h with
  | [], h => have := h.length; simp at this
  | v :: vs, h =>
   obtain ⟨h1, h2⟩ := h.cons_inv
   by_cases hc : isNil c = true ∧ ∃ e k, g = some (e, k)
   ·obtain ⟨hnil, e, k, rfl⟩ := hc
    obtain rfl := isNil_eq hnil
    simp only [okl, Bool.and_eq_true, decide_eq_true_eq] at hk
    have hv : v = .slice none 0 0 := AR.sc_inv h1
    obtain ⟨W1, t1, s1, q1⟩ := hs.row (w' := w) (e := e) (k := k) (rows := []) (cells := []) (v := .slice none 0 0) rfl rfl rfl (Nat.le_refl _) (fun _ _ => rfl) hk.1 (by simp) (World.ownsRow_nil w 0 e k) (fun b hb => by cases hb) (by exact (Ow.nil : Ow w [] [] _))
    obtain ⟨W2, t2, s2, r2⟩ := AR.ghost cs l vs W1 (R ++ [.row e k []]) hk.2 s1 (h2.next t1)
    have e1 : gh R.length (.sc (.slice none 0 0) :: cs) (some (e, k) :: l) = (.sl R.length 0 0 0 :: (gh (R.length + 1) cs l).1, .row e k [] :: (gh (R.length + 1) cs l).2) := by simp only [gh, hnil]
    rw [e1]
    rw [show (R ++ [Res.row e k []]).length = R.length + 1 by simp] at t2 s2 r2
    rw [List.append_assoc] at t2 s2 r2
    refine ⟨W2, t1.trans t2, s2, AR.cons_mk ?_ r2⟩
    have := sl_whole (W' := W1) (R' := R ++ [.row e k []]) (w' := w) (i := R.length) (n := 0) (e := e) (k := k) (rows := []) (v := v) (by simp) rfl (q1.trans hv.symm) (by rw [hv]; rfl) s1
    have := AVR.next t2 this
    exact this
   ·have e1 : gh R.length (c :: cs) (g :: l) = (c :: (gh R.length cs l).1, (gh R.length cs l).2) := by
     simp only [gh]
     cases hn : isNil c with
     | false => rfl
     | true => cases g with
      | none => rfl
      | some x => exact absurd ⟨hn, x.1, x.2, rfl⟩ hc
    rw [e1]
    obtain ⟨W2, t2, s2, r2⟩ := AR.ghost cs l vs W R (by cases g with | none => exact hk | some x => simp only [okl, Bool.and_eq_true] at hk; exact hk.2) hs h2
    exact ⟨W2, t2, s2, AR.cons_mk (h1.next t2) r2⟩

theorem EFn.ghost {P : Program} {f : FuncId} {args : List AV} {R : List Res} {Q Q' : AV → List Res → Prop} (h : EFn P f args R Q)
  (hq : ∀ r S, Q r S → Q' r S ∨ (∃ cs l, r = .agg cs ∧ okl l = true ∧ Q' (.agg (gh S.length cs l).1) (S ++ (gh S.length cs l).2)) ∨ (∃ c c' l, r = .c c ∧ okl l = true ∧ (gh S.length [c] l).1 = [c'] ∧ Q' (.c c') (S ++ (gh S.length [c] l).2))) : EFn P f args R Q' := by
 intro w W vals h1 h2
 refine (h w W vals h1 h2).mono ?_
 rintro e w' ⟨r, S, W', k1, ⟨v, rfl, k2⟩, k3, k4⟩
 rcases hq r S k1 with hq | ⟨cs, l, rfl, hl, hq⟩ | ⟨c, c', l, rfl, hl, hc, hq⟩
 ·exact ⟨r, S, W', hq, ⟨v, rfl, k2⟩, k3, k4⟩
 ·obtain ⟨vs, rfl, har⟩ := k2
  obtain ⟨W2, t2, s2, r2⟩ := AR.ghost cs l vs W' S hl k3 har
  exact ⟨_, _, W2, hq, ⟨_, rfl, vs, rfl, r2⟩, s2, k4.trans t2⟩
 ·have har : AR W' S w' [c] [v] := k2
  obtain ⟨W2, t2, s2, r2⟩ := AR.ghost [c] l [v] W' S hl k3 har
  rw [hc] at r2
  exact ⟨_, _, W2, hq, ⟨v, rfl, r2⟩, s2, k4.trans t2⟩

theorem AR.setAt {W : Wit} {R : List Res} {w : World} {c c' : AC} : ∀ {cs : List AC} {vs : List Value} (j : Nat), AR W R w cs vs → cs[j]? = some c → (∀ v, AR W R w [c] [v] → AR W R w [c'] [v]) → AR W R w (cs.set j c') vs
 | [], vs, j, h, hc, _ => by simp at hc
 | d :: cs, vs, j, h, hc, hn => by
  match vs, h with
  | [], h => have := h.length; simp at this
  | v :: vs, h =>
   obtain ⟨h1, h2⟩ := h.cons_inv
   cases j with
   | zero =>
    obtain rfl : d = c := by simpa using hc
    exact AR.cons_mk (hn v h1) h2
   | succ j => exact AR.cons_mk h1 (AR.setAt j h2 (by simpa using hc) hn)

/-- An empty slice in a variable, that is nil, told as a row with nothing in it. -/
theorem E_ghostB {P : Program} {N : Nat} {s : Slots} {R : List Res} {Q : Exit → Slots → List Res → Prop} {c : Code} (i j e k : Nat) {cs : List AC} (hR : R[i]? = some (.box cs)) (hc : cs[j]? = some (.sc (.slice none 0 0))) (hk : 0 < k)
  (h : ECode P N c s (List.set (R ++ [Res.row e k []]) i (.box (cs.set j (.sl R.length 0 0 0)))) Q) : ECode P N c s R Q := by
 intro a w W hn
 have hi : i < R.length := by
  rcases Nat.lt_or_ge i R.length with h' | h'
  ·exact h'
  ·rw [List.getElem?_eq_none h'] at hR; cases hR
 obtain ⟨W1, t1, s1, q1⟩ := hn.sep.row (w' := w) (e := e) (k := k) (rows := []) (cells := []) (v := .slice none 0 0) rfl rfl rfl (Nat.le_refl _) (fun _ _ => rfl) hk (by simp) (World.ownsRow_nil w 0 e k) (fun b hb => by cases hb) (by exact (Ow.nil : Ow w [] [] _))
 have hR1 : (R ++ [Res.row e k []])[i]? = some (.box cs) := by rw [List.getElem?_append_left hi]; exact hR
 have hi1 : i < (R ++ [Res.row e k []]).length := by simp; omega
 have tr : Trans w W1 (R ++ [Res.row e k []]) w W1 ((R ++ [Res.row e k []]).set i (.box (cs.set j (.sl R.length 0 0 0)))) := by
  refine ⟨rfl, rfl, rfl, Nat.le_refl _, fun _ _ => rfl, fun m b hb => .inl ⟨m, hb⟩, fun m => ?_⟩
  by_cases em : i = m
  ·subst em; rw [List.getElem?_set_self hi1, hR1]; rfl
  ·rw [List.getElem?_set_ne em]; exact Goes.refl _ _
 have sp : Sep w W1 ((R ++ [Res.row e k []]).set i (.box (cs.set j (.sl R.length 0 0 0)))) :=
  s1.step tr i (fun m h1 _ => by simpa using h1) (fun m h1 _ => List.getElem?_set_ne (Ne.symm h1)) (fun _ _ => rfl) (fun _ _ _ => Iff.rfl) (fun _ _ _ _ => rfl)
   (fun q hq => by
    rw [List.getElem?_set_self hi1] at hq
    obtain rfl := Option.some.inj hq
    obtain ⟨b, arr, e', f1, f2, f3, f4⟩ := s1.res i _ hR1
    refine ⟨b, arr, e', f1, f2, f3, ?_⟩
    refine (AR.setAt j f4 hc (fun v hv => ?_)).next tr
    have hv' : v = .slice none 0 0 := AR.sc_inv hv
    exact sl_whole (W' := W1) (R' := R ++ [.row e k []]) (w' := w) (i := R.length) (n := 0) (e := e) (k := k) (rows := []) (v := v) (by simp) rfl (q1.trans hv'.symm) (by rw [hv']; rfl) s1)
   (fun b hb => .inl hb) (fun b hb => s1.lt i b hb) (fun h' => absurd hi1 (by simp at h' ⊢; omega)) (fun h' => by rw [List.getElem?_set_self hi1] at h'; cases h')
 exact wp_mono (h a w W1 ((hn.next t1 s1).next tr sp)) fun e a' w' hr => hr.after (t1.trans tr)

/-! ### Resources that are not told one by one -/
end Go.Proofs.YthnadkagchbhbaaGreat.E

namespace Go.Proofs.YthnadkagchbhbaaGreat.E
open Go Go.RowKit
set_option linter.unusedVariables false
set_option linter.unusedSimpArgs false

/-- A row of one's own, read. -/
theorem sl_rd {W : Wit} {R : List Res} {w : World} {O : Nat → Prop} (hs : Sep w W R) {i off len tot e k : Nat} {rows : List (List T)} {v : Value} (hR : R[i]? = some (.row e k rows)) (ht : rows.length = tot) (h2 : tot ≤ rows.length) (h3 : slAt (W.hs i) v k off len) (hO : ∀ b, W.fs i b → O b) :
  Rd w O [.sl ((rows.drop off).take len)] [v] := by
 obtain ⟨a, n, c, e1, e0, e2⟩ := h3
 obtain ⟨f1, f2, cells, G, f3, f4, f5, f6⟩ := hs.res i _ hR
 obtain ⟨a', c', g1, g2, gm, g0, g3⟩ := ownsRow_reads f3
 rw [e1] at g1
 obtain ⟨rfl, rfl, rfl⟩ : a = a' ∧ n = rows.length ∧ c = c' := by cases g1; exact ⟨rfl, rfl, rfl⟩
 have hsub : ((rows.drop off).take len).length = len := by rw [List.length_take, List.length_drop]; omega
 have hrd : Rd w O rows.flatten cells := f4.rd fun b hb => hO b ((f6 b).2 (.inr hb))
 have hrd2 : Rd w O ((rows.drop off).take len).flatten ((cells.drop (off * k)).take (len * k)) := by
  rw [flatten_sub f2]; exact (hrd.drop _).take _
 have hk2 : ∀ r ∈ (rows.drop off).take len, r.length = k := fun r hr => f2 r (List.mem_of_mem_drop (List.mem_of_mem_take hr))
 rcases e2 with e2 | ⟨rfl, h0, a2, c2, e2, e3⟩
 ·subst e2
  have := Rd.sl (w := w) (O := O) (rows := (rows.drop off).take len) (a := a.map fun b => ⟨b.block, off * k, none⟩) (c := c - off) (inner := (cells.drop (off * k)).take (len * k)) (ts := []) (vs := []) k ⟨by omega, by omega⟩ f1 hk2 (fun hp => by
   obtain ⟨b, rfl, hb, hc⟩ := g3 (by omega)
   refine ⟨b, off * k, rfl, hO b ((f6 b).2 (.inl hb)), fun j u hj => ?_⟩
   rw [List.getElem?_take] at hj
   split at hj
   ·rw [List.getElem?_drop] at hj
    have := hc _ u hj
    rwa [Nat.zero_add] at this
   ·cases hj) hrd2 .nil
  rwa [hsub] at this
 ·subst e2
  have := Rd.sl (w := w) (O := O) (rows := (rows.drop off).take 0) (a := a2) (c := c2) (inner := []) (ts := []) (vs := []) k ⟨by simp, e3⟩ f1 (by simp) (fun hp => by simp at hp) (by simpa using Rd.nil) .nil
  simpa using this

/-! ### 1. Handing over -/
def AC.sub (R : List Res) (σ : List Nat) : AC → AC
 | .sl i off len tot => match ix σ i with
  | some q => .sl q off len tot
  | none => match R[i]? with
   | some (.row e k rows) => if rows.length = tot then .ro ((rows.drop off).take len) else .any
   | _ => .any
 | .bp i off => match ix σ i with | some q => .bp q off | none => .any
 | .ep i j off tot => match ix σ i with | some q => .ep q j off tot | none => .any
 | .fn f caps => .fn f (subs R σ caps)
 | c => c
where subs (R : List Res) (σ : List Nat) : List AC → List AC
 | [] => []
 | c :: cs => c.sub R σ :: subs R σ cs

def AV.sub (R : List Res) (σ : List Nat) : AV → AV
 | .c x => .c (x.sub R σ)
 | .agg xs => .agg (AC.sub.subs R σ xs)
 | .tup _ => .any
 | .any => .any

theorem AR.sub {W : Wit} {R : List Res} {w : World} {σ : List Nat} (hs : Sep w W R) (ho : okσ 0 R σ = true) {cs : List AC} {vs : List Value} (h : AR W R w cs vs) : AR (W.ren 0 σ) (reR 0 σ R) w (AC.sub.subs R σ cs) vs := by
 have one : ∀ {c : AC} {v : Value}, AR W R w [c] [v] → AR (W.ren 0 σ) (reR 0 σ R) w [c.ren 0 σ] [v] := fun h => by
  have := h.ren (n := 0) (σ := σ) (Nat.zero_le _) ho
  simpa [AC.ren.rens] using this
 have key : ∀ {i : Nat}, ix σ i = none → ∀ b, W.fs i b → ∀ q, ¬ (W.ren 0 σ).fs q b := fun {i} hi b hb q hq => by
  obtain ⟨p, h1, _, h3⟩ := Wit.ren_sub q b hq
  have e := hs.apart i p b hb h1
  subst e
  have := h3 (by omega)
  rw [show q - 0 = q by omega] at this
  exact ix_none hi (List.mem_of_getElem? this)
 induction h with
 | nil => exact .nil
 | sc h1 _ ih => exact .sc h1 ih
 | any h1 _ ih => exact .any h1 ih
 | ro h1 _ ih => exact AR.cons_mk (one (AR.ro h1 .nil)) ih
 | rp b o inner h1 h2 h3 h4 _ ih => exact AR.cons_mk (one (AR.rp b o inner h1 h2 h3 h4 .nil)) ih
 | fn _ _ ih1 ih2 => exact .fn ih1 ih2
 | @sl i off len tot v cs vs h1 h2 h3 _ ih =>
  have h0 := one (AR.sl (off := off) (len := len) (tot := tot) h1 h2 h3 .nil)
  simp only [AC.sub.subs, AC.sub]
  simp only [AC.ren, Nat.not_lt_zero, if_false] at h0
  cases hq : ix σ i with
  | some q => rw [hq] at h0; simp only [Nat.zero_add] at h0; exact AR.cons_mk h0 ih
  | none =>
   simp only
   split
   ·rename_i e k rows hR
    split
    ·rename_i ht
     exact AR.cons_mk (AR.ro (sl_rd hs hR ht (by omega) ((h3 _ _ _ hR).2 ht) fun b hb => ⟨hs.lt i b hb, key hq b hb⟩) .nil) ih
    ·exact .any h1 ih
   ·exact .any h1 ih
 | @bp i off v cs vs h1 h2 h3 _ ih =>
  have h0 := one (AR.bp (off := off) h1 h2 h3 .nil)
  simp only [AC.sub.subs, AC.sub]
  simp only [AC.ren, Nat.not_lt_zero, if_false] at h0
  cases hq : ix σ i with
  | some q => rw [hq] at h0; simp only [Nat.zero_add] at h0; exact AR.cons_mk h0 ih
  | none => exact .any h1 ih
 | @ep i j off tot v cs vs h1 h2 h3 _ ih =>
  have h0 := one (AR.ep (j := j) (off := off) (tot := tot) h1 h2 h3 .nil)
  simp only [AC.sub.subs, AC.sub]
  simp only [AC.ren, Nat.not_lt_zero, if_false] at h0
  cases hq : ix σ i with
  | some q => rw [hq] at h0; simp only [Nat.zero_add] at h0; exact AR.cons_mk h0 ih
  | none => exact .any h1 ih
where
 ix_none : ∀ {σ : List Nat} {i : Nat}, ix σ i = none → ¬ i ∈ σ
  | [], i, _, h => by simp at h
  | j :: l, i, h, hm => by
   unfold ix at h
   split at h
   ·cases h
   ·rename_i hne
    rcases List.mem_cons.1 hm with hm | hm
    ·exact hne hm
    ·exact ix_none (by simpa using h) hm

theorem AVR.sub {W : Wit} {R : List Res} {w : World} {σ : List Nat} (hs : Sep w W R) (ho : okσ 0 R σ = true) {x : AV} {v : Value} (h : AVR W R w x v) : AVR (W.ren 0 σ) (reR 0 σ R) w (x.sub R σ) v := by
 cases x with
 | c x => exact AR.sub hs ho (show AR W R w [x] [v] from h)
 | agg xs =>
  obtain ⟨vs, e, h⟩ := h
  exact ⟨vs, e, h.sub hs ho⟩
 | tup xs => trivial
 | any => trivial

end Go.Proofs.YthnadkagchbhbaaGreat.E

namespace Go.Proofs.YthnadkagchbhbaaGreat.E
open Go Go.RowKit
set_option linter.unusedVariables false
set_option linter.unusedSimpArgs false

def un (n : Nat) (σ : List Nat) (q : Nat) : Nat := match σ[q]? with | some i => i | none => n + (q - σ.length)

def AC.un (n : Nat) (σ : List Nat) : AC → AC
 | .sl q off len tot => .sl (E.un n σ q) off len tot
 | .bp q off => .bp (E.un n σ q) off
 | .ep q j off tot => .ep (E.un n σ q) j off tot
 | .fn f caps => .fn f (uns n σ caps)
 | c => c
where uns (n : Nat) (σ : List Nat) : List AC → List AC
 | [] => []
 | c :: cs => c.un n σ :: uns n σ cs

def AV.un (n : Nat) (σ : List Nat) : AV → AV
 | .c x => .c (x.un n σ)
 | .agg xs => .agg (AC.un.uns n σ xs)
 | .tup xs => .tup (xs.map fun x => (x.1, AC.un.uns n σ x.2))
 | .any => .any

def Res.un (n : Nat) (σ : List Nat) : Res → Res
 | .box cs => .box (AC.un.uns n σ cs)
 | .pin x u => .pin (x.un n σ) u
 | r => r

def backR (n : Nat) (σ : List Nat) (S : List Res) : Nat → List Res → List Res
 | _, [] => []
 | i, r :: R => (match ix σ i with | some q => ((S[q]?).getD .gone).un n σ | none => r) :: backR n σ S (i + 1) R

def back (σ : List Nat) (R S : List Res) : List Res := backR R.length σ S 0 R ++ (S.drop σ.length).map (Res.un R.length σ)

theorem backR_len (n : Nat) (σ : List Nat) (S : List Res) : ∀ (R : List Res) (i : Nat), (backR n σ S i R).length = R.length
 | [], _ => rfl
 | r :: R, i => by simp [backR, backR_len n σ S R (i + 1)]

theorem backR_at (n : Nat) (σ : List Nat) (S : List Res) : ∀ (R : List Res) (i j : Nat), j < R.length → (backR n σ S i R)[j]? = (match ix σ (i + j) with | some q => some (((S[q]?).getD .gone).un n σ) | none => R[j]?)
 | r :: R, i, 0, _ => by
  simp only [backR, Nat.add_zero, List.getElem?_cons_zero]
  cases ix σ i <;> rfl
 | r :: R, i, j + 1, h => by
  simp only [backR, List.getElem?_cons_succ]
  rw [backR_at n σ S R (i + 1) j (by simpa using h), show i + 1 + j = i + (j + 1) by omega]

theorem back_old {σ : List Nat} {R S : List Res} {j : Nat} (h : j < R.length) : (back σ R S)[j]? = (match ix σ j with | some q => some (((S[q]?).getD .gone).un R.length σ) | none => R[j]?) := by
 unfold back
 rw [List.getElem?_append_left (by rw [backR_len]; exact h), backR_at _ _ _ _ _ _ h, Nat.zero_add]

theorem back_new {σ : List Nat} {R S : List Res} (j : Nat) : (back σ R S)[R.length + j]? = (S[σ.length + j]?).map (Res.un R.length σ) := by
 unfold back
 rw [List.getElem?_append_right (by rw [backR_len]; omega), backR_len, show R.length + j - R.length = j by omega, List.getElem?_map, List.getElem?_drop]

theorem ix_of {σ : List Nat} (hd : σ.Nodup) {i q : Nat} (h : σ[q]? = some i) : ix σ i = some q := by
 cases hx : ix σ i with
 | none => exact absurd (List.mem_of_getElem? h) (AR.sub.ix_none hx)
 | some p => rw [nodup_inj hd (ix_get hx) h]

def Wit.back (W V : Wit) (n : Nat) (σ : List Nat) : Wit :=
  ⟨fun i => if i < n then (match ix σ i with | some q => V.hs q | none => W.hs i) else V.hs (σ.length + (i - n)),
   fun i b => if i < n then (match ix σ i with | some q => V.fs q b | none => W.fs i b) else V.fs (σ.length + (i - n)) b⟩

theorem Res.un_row {r : Res} {n e k : Nat} {σ : List Nat} {rows : List (List T)} (h : Res.row e k rows = r.un n σ) : r = .row e k rows := by cases r <;> first | exact h.symm | cases h
theorem Res.un_box {r : Res} {n : Nat} {σ : List Nat} {xs : List AC} (h : Res.box xs = r.un n σ) : ∃ ys, r = .box ys ∧ xs = AC.un.uns n σ ys := by
 cases r with
 | box ys => exact ⟨ys, rfl, by cases h; rfl⟩
 | row e k rows => cases h
 | gone => cases h
 | pin x u => cases h
theorem Res.un_gone {r : Res} {n : Nat} {σ : List Nat} (h : Res.gone = r.un n σ) : r = .gone := by cases r <;> first | rfl | cases h

section
variable {w : World} {W V : Wit} {R S : List Res} {σ : List Nat}

/-- What is known of a resource of the callee's, where it now stands. -/
theorem un_at (hd : σ.Nodup) (hlt : ∀ i ∈ σ, i < R.length) {q : Nat} (hq : q < S.length) :
  (back σ R S)[E.un R.length σ q]? = some ((S[q]).un R.length σ) ∧ (W.back V R.length σ).hs (E.un R.length σ q) = V.hs q ∧ (∀ b, (W.back V R.length σ).fs (E.un R.length σ q) b ↔ V.fs q b) ∧ E.un R.length σ q < (back σ R S).length := by
 have key : (back σ R S)[E.un R.length σ q]? = some ((S[q]).un R.length σ) ∧ (W.back V R.length σ).hs (E.un R.length σ q) = V.hs q ∧ (∀ b, (W.back V R.length σ).fs (E.un R.length σ q) b ↔ V.fs q b) := by
  unfold E.un
  cases hs : σ[q]? with
  | some i =>
   have hi := hlt i (List.mem_of_getElem? hs)
   have hx := ix_of hd hs
   simp only
   rw [back_old hi, hx]
   simp only [List.getElem?_eq_getElem hq, Option.getD_some, Wit.back, hi, if_true, hx, true_and]
   exact fun _ => trivial
  | none =>
   have hm : σ.length ≤ q := List.getElem?_eq_none_iff.1 hs
   simp only
   rw [back_new, show σ.length + (q - σ.length) = q by omega, List.getElem?_eq_getElem hq]
   refine ⟨rfl, ?_, fun b => ?_⟩
   ·simp only [Wit.back, show ¬ R.length + (q - σ.length) < R.length by omega, if_false]
    rw [show σ.length + (R.length + (q - σ.length) - R.length) = q by omega]
   ·simp only [Wit.back, show ¬ R.length + (q - σ.length) < R.length by omega, if_false]
    rw [show σ.length + (R.length + (q - σ.length) - R.length) = q by omega]
 refine ⟨key.1, key.2.1, key.2.2, ?_⟩
 rcases Nat.lt_or_ge (E.un R.length σ q) (back σ R S).length with h | h
 ·exact h
 ·have := key.1; rw [List.getElem?_eq_none h] at this; cases this

theorem un_back (hd : σ.Nodup) (hlt : ∀ i ∈ σ, i < R.length) (hl : σ.length ≤ S.length) {i : Nat} {r : Res} (h : (back σ R S)[i]? = some r) :
  (i < R.length ∧ ix σ i = none ∧ R[i]? = some r ∧ (W.back V R.length σ).hs i = W.hs i ∧ ∀ b, (W.back V R.length σ).fs i b ↔ W.fs i b) ∨ ∃ q, ∃ hq : q < S.length, i = E.un R.length σ q ∧ r = (S[q]).un R.length σ := by
 rcases Nat.lt_or_ge i R.length with hi | hi
 ·rw [back_old hi] at h
  cases hx : ix σ i with
  | none =>
   rw [hx] at h
   exact .inl ⟨hi, rfl, h, by simp [Wit.back, hi, hx], fun b => by simp [Wit.back, hi, hx]⟩
  | some q =>
   rw [hx] at h
   have hg := ix_get hx
   have hq : q < σ.length := by
    rcases Nat.lt_or_ge q σ.length with h' | h'
    ·exact h'
    ·rw [List.getElem?_eq_none h'] at hg; cases hg
   refine .inr ⟨q, by omega, by simp [E.un, hg], ?_⟩
   simp only at h
   rw [List.getElem?_eq_getElem (show q < S.length by omega)] at h
   exact (Option.some.inj h).symm
 ·have e : i = R.length + (i - R.length) := by omega
  rw [e, back_new] at h
  cases hs : S[σ.length + (i - R.length)]? with
  | none => rw [hs] at h; cases h
  | some s =>
   rw [hs] at h
   have hq : σ.length + (i - R.length) < S.length := by
    rcases Nat.lt_or_ge (σ.length + (i - R.length)) S.length with h' | h'
    ·exact h'
    ·rw [List.getElem?_eq_none h'] at hs; cases hs
   refine .inr ⟨_, hq, ?_, ?_⟩
   ·unfold E.un
    rw [List.getElem?_eq_none (by omega)]
    simp only
    omega
   ·rw [List.getElem?_eq_getElem hq] at hs
    rw [Option.some.inj hs]
    exact (Option.some.inj h).symm

theorem AR.un (hd : σ.Nodup) (hlt : ∀ i ∈ σ, i < R.length) (hl : σ.length ≤ S.length) {cs : List AC} {vs : List Value} (h : AR V S w cs vs) : AC.own.owns cs = true → AR (W.back V R.length σ) (back σ R S) w (AC.un.uns R.length σ cs) vs := by
 induction h with
 | nil => intro _; exact .nil
 | sc h1 _ ih => intro ho; exact .sc h1 (ih (by simpa [AC.own.owns, AC.own] using ho))
 | any h1 _ ih => intro ho; exact .any h1 (ih (by simpa [AC.own.owns, AC.own] using ho))
 | ro h1 _ ih => intro ho; simp [AC.own.owns, AC.own] at ho
 | rp b o inner h1 h2 h3 h4 _ ih => intro ho; simp [AC.own.owns, AC.own] at ho
 | fn _ _ ih1 ih2 =>
  intro ho
  simp only [AC.own.owns, AC.own, Bool.and_eq_true] at ho
  exact .fn (ih1 ho.1) (ih2 ho.2)
 | sl h1 h2 h3 _ ih =>
  intro ho
  obtain ⟨u1, u2, _, u4⟩ := un_at (W := W) (V := V) hd hlt h2
  refine .sl h1 u4 (fun e k rows hr => ?_) (ih (by simpa [AC.own.owns, AC.own] using ho))
  rw [u1] at hr
  rw [u2]
  exact h3 e k rows (by rw [List.getElem?_eq_getElem h2, Res.un_row (Option.some.inj hr).symm])
 | ep h1 h2 h3 _ ih =>
  intro ho
  obtain ⟨u1, u2, _, u4⟩ := un_at (W := W) (V := V) hd hlt h2
  refine .ep h1 u4 (fun e k rows hr => ?_) (ih (by simpa [AC.own.owns, AC.own] using ho))
  rw [u1] at hr
  rw [u2]
  exact h3 e k rows (by rw [List.getElem?_eq_getElem h2, Res.un_row (Option.some.inj hr).symm])
 | bp h1 h2 h3 _ ih =>
  intro ho
  obtain ⟨u1, u2, _, u4⟩ := un_at (W := W) (V := V) hd hlt h2
  refine .bp h1 u4 (fun xs hr => ?_) (ih (by simpa [AC.own.owns, AC.own] using ho))
  rw [u1] at hr
  obtain ⟨ys, e, _⟩ := Res.un_box (Option.some.inj hr).symm
  rw [u2]
  exact h3 ys (by rw [List.getElem?_eq_getElem h2, e])

theorem AVR.un (hd : σ.Nodup) (hlt : ∀ i ∈ σ, i < R.length) (hl : σ.length ≤ S.length) {x : AV} {v : Value} (h : AVR V S w x v) (ho : x.own = true) : AVR (W.back V R.length σ) (back σ R S) w (x.un R.length σ) v := by
 cases x with
 | c x => exact AR.un hd hlt hl (show AR V S w [x] [v] from h) (by simpa [AC.own.owns, AV.own] using ho)
 | agg xs =>
  obtain ⟨vs, e, h⟩ := h
  exact ⟨vs, e, h.un hd hlt hl ho⟩
 | tup xs =>
  obtain ⟨us, e, hl', h⟩ := h
  refine ⟨us, e, by simp [hl'], fun i y u h1 h2 => ?_⟩
  rw [List.getElem?_map] at h1
  cases hy : xs[i]? with
  | none => rw [hy] at h1; cases h1
  | some z =>
   rw [hy] at h1
   obtain rfl := Option.some.inj h1
   obtain ⟨vs, e1, e2⟩ := h i z u hy h2
   have hz : AC.own.owns z.2 = true := by
    simp only [AV.own, List.all_eq_true] at ho
    exact ho z (List.mem_of_getElem? hy)
   exact ⟨vs, e1, e2.un hd hlt hl hz⟩
 | any => trivial
end

/-- A callee that was shown over some of the resources goes under all. -/
theorem EFn.frame' {P : Program} {f : FuncId} {args args' : List AV} {R Rs : List Res} {Q : AV → List Res → Prop} (σ : List Nat) (ho : okσ 0 R σ = true) (hR : reR 0 σ R = Rs) (ha : args.map (AV.sub R σ) = args') (h : EFn P f args' Rs Q) (hq : ∀ r S, Q r S → r.own = true ∧ S.all Res.own = true) :
  EFn P f args R (fun r R' => ∃ r0 S, Q r0 S ∧ r = r0.un R.length σ ∧ R' = back σ R S) := by
 subst hR
 subst ha
 intro w W vals hv hs
 obtain ⟨hd, hin⟩ := okσ_parts ho
 have hlt : ∀ i ∈ σ, i < R.length := fun i hi => (hin i hi).2
 have hv0 : AVs (W.ren 0 σ) (reR 0 σ R) w (args.map (AV.sub R σ)) vals := by
  refine ⟨by simp [hv.1], fun i x v hx hu => ?_⟩
  rw [List.getElem?_map] at hx
  cases hy : args[i]? with
  | none => rw [hy] at hx; cases hx
  | some y =>
   rw [hy] at hx
   obtain rfl := Option.some.inj hx
   exact (hv.2 i y v hy hu).sub hs ho
 have hs0 : Sep w (W.ren 0 σ) (reR 0 σ R) := hs.ren (Nat.zero_le _) ho
 refine (h w (W.ren 0 σ) vals hv0 hs0).mono ?_
 rintro e w' ⟨r, S, V, k1, ⟨v, rfl, k2⟩, k3, k4⟩
 obtain ⟨q1, q2⟩ := hq r S k1
 have hRl : (reR 0 σ R).length = σ.length := by rw [reR_len (Nat.zero_le _)]; simp
 have hl : σ.length ≤ S.length := by rw [← hRl]; exact k4.len
 have hout : ∀ b, W.out w b → (W.ren 0 σ).out w b := fun b hb => ⟨hb.1, fun q hq' => by
  obtain ⟨p, h1, _⟩ := Wit.ren_sub q b hq'
  exact hb.2 p h1⟩
 have hother : ∀ i, ix σ i = none → ∀ b, W.fs i b → (W.ren 0 σ).out w b := fun i hi b hb => ⟨hs.lt i b hb, fun q hq' => by
  obtain ⟨p, h1, _, h3⟩ := Wit.ren_sub q b hq'
  have e := hs.apart i p b hb h1
  subst e
  have := h3 (by omega)
  rw [show q - 0 = q by omega] at this
  exact AR.sub.ix_none hi (List.mem_of_getElem? this)⟩
 have hVlt : ∀ q b, V.fs q b → q < S.length := fun q b hb => by
  rcases Nat.lt_or_ge q S.length with h' | h'
  ·exact h'
  ·exact absurd hb (k3.out q h' b)
 have hVown : ∀ q b, V.fs q b → (∃ j, j ∈ σ ∧ W.fs j b) ∨ w.heap.size ≤ b := fun q b hb => by
  rcases k4.own q b hb with ⟨j, hj⟩ | hj
  ·obtain ⟨p, h1, _, h3⟩ := Wit.ren_sub j b hj
   exact .inl ⟨p, List.mem_of_getElem? (h3 (by omega)), h1⟩
  ·exact .inr hj
 -- which resource has a block behind the call
 have hfs : ∀ i b, (W.back V R.length σ).fs i b → (i < R.length ∧ ix σ i = none ∧ W.fs i b) ∨ ∃ q, i = E.un R.length σ q ∧ V.fs q b := fun i b hb => by
  simp only [Wit.back] at hb
  split at hb
  ·rename_i hi
   cases hx : ix σ i with
   | none => rw [hx] at hb; exact .inl ⟨hi, rfl, hb⟩
   | some q => rw [hx] at hb; exact .inr ⟨q, by simp [E.un, ix_get hx], hb⟩
  ·rename_i hi
   refine .inr ⟨_, ?_, hb⟩
   unfold E.un
   rw [List.getElem?_eq_none (by omega)]
   simp only
   omega
 have tr : Trans w W R w' (W.back V R.length σ) (back σ R S) := by
  refine ⟨k4.os, k4.tape, k4.output, k4.size, fun b hb => k4.frame b (hout b hb), fun i b hb => ?_, fun i => ?_⟩
  ·rcases hfs i b hb with ⟨_, _, h1⟩ | ⟨q, _, h1⟩
   ·exact .inl ⟨i, h1⟩
   ·rcases hVown q b h1 with ⟨j, _, hj⟩ | hj
    ·exact .inl ⟨j, hj⟩
    ·exact .inr hj
  ·rcases Nat.lt_or_ge i R.length with hi | hi
   ·rw [back_old hi]
    cases hx : ix σ i with
    | none =>
     have : (W.back V R.length σ).hs i = W.hs i := by simp [Wit.back, hi, hx]
     rw [this]; exact Goes.refl _ _
    | some q =>
     have hg := ix_get hx
     have hqm : q < σ.length := by
      rcases Nat.lt_or_ge q σ.length with h' | h'
      ·exact h'
      ·rw [List.getElem?_eq_none h'] at hg; cases hg
     have hw : (W.back V R.length σ).hs i = V.hs q := by simp [Wit.back, hi, hx]
     have h0 := k4.goes q
     have e1 : (reR 0 σ R)[q]? = some ((R[i]).ren 0 σ) := by
      have := reR_new (n := 0) (R := R) (Nat.zero_le _) hg
      rw [Nat.zero_add] at this
      rw [this, List.getElem?_eq_getElem hi]; rfl
     have e2 : (W.ren 0 σ).hs q = W.hs i := by simp [Wit.ren, hg]
     rw [e1, e2, List.getElem?_eq_getElem (show q < S.length by omega)] at h0
     rw [hw, List.getElem?_eq_getElem hi]
     simp only
     rw [List.getElem?_eq_getElem (show q < S.length by omega)]
     simp only [Option.getD_some]
     generalize S[q]'(by omega) = s1 at h0
     generalize R[i] = r1 at h0
     cases r1 <;> cases s1 <;> exact h0
   ·rw [List.getElem?_eq_none hi]; exact trivial
 refine ⟨_, _, _, ⟨r, S, k1, rfl, rfl⟩, ⟨v, rfl, k2.un hd hlt hl q1⟩, ?_, tr⟩
 refine ⟨fun i s hi => ?_, fun i hi b hb => ?_, fun i hi b hb => ?_, fun i j b hi hj => ?_, fun i b hb => ?_⟩
 ·rcases un_back (W := W) (V := V) hd hlt hl hi with ⟨h1, h2, h3, h4, h5⟩ | ⟨q, hq', rfl, rfl⟩
  ·have e : (W.back V R.length σ).fs i = W.fs i := funext fun b => propext (h5 b)
   rw [h4, e]
   exact (hs.res i s h3).next tr fun b hb => k4.frame b (hother i h2 b hb)
  ·obtain ⟨_, u2, u3, _⟩ := un_at (W := W) (V := V) hd hlt hq'
   have e : (W.back V R.length σ).fs (E.un R.length σ q) = V.fs q := funext fun b => propext (u3 b)
   rw [u2, e]
   have hr0 := k3.res q _ (List.getElem?_eq_getElem hq')
   have hown : Res.own (S[q]) = true := List.all_eq_true.1 q2 _ (List.getElem_mem hq')
   generalize S[q] = s1 at hr0 hown
   cases s1 with
   | box cs =>
    obtain ⟨b, arr, e', f1, f2, f3, f4⟩ := hr0
    exact ⟨b, arr, e', f1, f2, f3, f4.un hd hlt hl hown⟩
   | row e' k rows => exact hr0
   | gone => trivial
   | pin x u =>
    obtain ⟨f1, f2⟩ := hr0
    exact ⟨f1, f2.un hd hlt hl (by simpa [AC.own.owns, Res.own] using hown)⟩
 ·rcases hfs i b hb with ⟨h1, _, _⟩ | ⟨q, rfl, h1⟩
  ·have := backR_len R.length σ S R 0
   unfold back at hi
   rw [List.length_append, this] at hi
   omega
  ·obtain ⟨_, _, _, u4⟩ := un_at (W := W) (V := V) hd hlt (hVlt q b h1)
   omega
 ·rcases un_back (W := W) (V := V) hd hlt hl hi with ⟨h1, h2, h3, h4, h5⟩ | ⟨q, hq', rfl, e⟩
  ·exact hs.gone i h3 b ((h5 b).1 hb)
  ·obtain ⟨_, _, u3, _⟩ := un_at (W := W) (V := V) hd hlt hq'
   have := Res.un_gone e
   exact k3.gone q (by rw [List.getElem?_eq_getElem hq', this]) b ((u3 b).1 hb)
 ·rcases hfs i b hi with ⟨_, h2, h3⟩ | ⟨q, rfl, h3⟩ <;> rcases hfs j b hj with ⟨_, g2, g3⟩ | ⟨p, rfl, g3⟩
  ·exact hs.apart i j b h3 g3
  ·rcases hVown p b g3 with ⟨m, hm, hm2⟩ | hm
   ·have := hs.apart i m b h3 hm2
    subst this
    exact absurd hm (AR.sub.ix_none h2)
   ·exact absurd (hs.lt i b h3) (by omega)
  ·rcases hVown q b h3 with ⟨m, hm, hm2⟩ | hm
   ·have := hs.apart j m b g3 hm2
    subst this
    exact absurd hm (AR.sub.ix_none g2)
   ·exact absurd (hs.lt j b g3) (by omega)
  ·rw [k3.apart q p b h3 g3]
 ·rcases hfs i b hb with ⟨_, _, h3⟩ | ⟨q, _, h3⟩
  ·exact Nat.lt_of_lt_of_le (hs.lt i b h3) k4.size
  ·exact k3.lt q b h3

theorem slOk_of {R : List Res} {i off len tot e k : Nat} {rows : List (List T)} (hR : R[i]? = some (.row e k rows)) (hl : rows.length = tot) : slOk R (.c (.sl i off len tot)) = true := by simp [slOk, hR, hl]
theorem ptrOk_of {R : List Res} {i j off tot e k : Nat} {rows : List (List T)} (hR : R[i]? = some (.row e k rows)) (hl : rows.length = tot) : ptrOk R (.c (.ep i j off tot)) = true := by simp [ptrOk, hR, hl]
theorem subC_whole {R : List Res} {σ : List Nat} {i e k n : Nat} {rows : List (List T)} (hR : R[i]? = some (.row e k rows)) (hn : rows.length = n) (hx : ix σ i = none := by rfl) : AC.sub R σ (.sl i 0 n n) = .ro rows := by
 simp [AC.sub, hx, hR, hn, List.take_of_length_le (Nat.le_of_eq hn)]
theorem sub_whole {R : List Res} {σ : List Nat} {i e k n : Nat} {rows : List (List T)} (hR : R[i]? = some (.row e k rows)) (hn : rows.length = n) (hx : ix σ i = none := by rfl) : AV.sub R σ (.c (.sl i 0 n n)) = .c (.ro rows) := by
 simp [AV.sub, subC_whole hR hn hx]

end Go.Proofs.YthnadkagchbhbaaGreat.E

namespace Go.Proofs.YthnadkagchbhbaaGreat.E
open Go Go.RowKit
set_option linter.unusedVariables false
set_option linter.unusedSimpArgs false

def GCode (P : Program) (N n : Nat) (c : Code) (s : Slots) (R : List Res) (Q : Exit → Slots → List Res → Prop) : Prop :=
 ∀ w0 W0 R0, R0.length = n → ∀ a w W, Now N s R a w W → Trans w0 W0 R0 w W R → c.wp P (fun ex a' w' => Reach N w0 W0 R0 (Q ex) a' w') a w

def renS (n : Nat) (σ : List Nat) : Slots → Slots
 | [] => []
 | (d, v) :: s => (d, v.ren n σ) :: renS n σ s

theorem get_renS (n : Nat) (σ : List Nat) (t : Nat) : ∀ s : Slots, get (renS n σ s) t = (get s t).ren n σ
 | [] => rfl
 | (d, v) :: s => by
  simp only [renS, E.get]
  split
  ·rfl
  ·exact get_renS n σ t s

section
variable {P : Program} {N n : Nat} {s : Slots} {R : List Res} {Q : Exit → Slots → List Res → Prop}

theorem E_G {c : Code} (hn : R.length = n) (h : GCode P N n c s R Q) : ECode P N c s R Q := fun a w W hw => h w W R hn a w W hw (.refl ..)
theorem G_E {c : Code} (h : ECode P N c s R Q) : GCode P N n c s R Q := fun w0 W0 R0 _ a w W hn ht => wp_mono (h a w W hn) fun e a' w' hr => hr.after ht

theorem GCode.mono {c : Code} {Q' : Exit → Slots → List Res → Prop} (h : GCode P N n c s R Q) (hq : ∀ e s R, Q e s R → Q' e s R) : GCode P N n c s R Q' :=
 fun w0 W0 R0 h0 a w W hn ht => wp_mono (h w0 W0 R0 h0 a w W hn ht) fun e a' w' hr => hr.mono (hq e)

theorem GCode.sub {c : Code} {L : Slots} (hs : Sub L s) (h : GCode P N n c L R Q) : GCode P N n c s R Q :=
 fun w0 W0 R0 h0 a w W hn ht => h w0 W0 R0 h0 a w W (hn.sub hs) ht

theorem G_seq {x y : Code} (h : GCode P N n x s R (EThen (fun s' R' => GCode P N n y s' R' Q) Q)) : GCode P N n (.seq x y) s R Q := by
 intro w0 W0 R0 h0 a w W hn ht
 refine wp_seq (wp_mono (h w0 W0 R0 h0 a w W hn ht) fun e a1 w1 hr => ?_)
 cases e with
 | normal =>
  obtain ⟨s1, R1, W1, h1, h2, h3⟩ := hr
  exact h1 w0 W0 R0 h0 a1 w1 W1 h2 h3
 | exit id => exact hr
 | goto l => exact hr
 | ret => exact hr
 | panic ch => exact hr
 | outgrown => exact hr

theorem G_skip (h : Q .normal s R) : GCode P N n .skip s R Q := G_E (E_skip h)
theorem G_exit {id : Nat} (h : Q (.exit id) s R) : GCode P N n (.exit id) s R Q := G_E (E_exit h)
theorem G_ret (h : Q .ret s R) : GCode P N n .ret s R Q := G_E (E_ret h)

theorem G_cond {t : Nat} {b : Bool} {x y : Code} (hb : get s t = .c (.sc (.bool b))) (h1 : b = true → GCode P N n x s R Q) (h2 : b = false → GCode P N n y s R Q) : GCode P N n (.cond (.tmp t) x y) s R Q := by
 intro w0 W0 R0 h0 a w W hn ht
 have hv := hn.val t
 rw [hb] at hv
 have he : a.eval (.tmp t) = .bool b := AR.sc_inv hv
 exact wp_cond_split he (fun h => h1 h w0 W0 R0 h0 a w W hn ht) (fun h => h2 h w0 W0 R0 h0 a w W hn ht)

theorem G_block {id : Nat} {c : Code} (h : GCode P N n c s R (EBlock id Q)) : GCode P N n (.block id c) s R Q := by
 intro w0 W0 R0 h0 a w W hn ht
 refine wp_block (wp_mono (h w0 W0 R0 h0 a w W hn ht) fun e a' w' hr => ?_)
 cases e with
 | exit id' =>
  simp only [Exit.inBlock, EBlock] at hr ⊢
  split at hr <;> simp_all
 | normal => exact hr
 | goto l => exact hr
 | ret => exact hr
 | panic ch => exact hr
 | outgrown => exact hr

theorem G_loop {c : Code} (I : Nat → Slots → List Res → Prop) (n0 : Nat) (h0 : I n0 s R)
  (round : ∀ m s R, I m s R → GCode P N n c s R (EThen (fun s' R' => ∃ m', m' < m ∧ I m' s' R') Q)) : GCode P N n (.loop c) s R Q := by
 intro w0 W0 R0 hl a w W hn ht
 intro b k cs
 have key : ∀ m a1 w1, (∃ s1 R1 W1, I m s1 R1 ∧ Now N s1 R1 a1 w1 W1 ∧ Trans w0 W0 R0 w1 W1 R1) →
   ∃ e a' w', Reach N w0 W0 R0 (Q e) a' w' ∧ Arrives P (lone (b.at a1 (.code c :: .inLoop c :: k)) cs w1) b k cs e a' w' := by
  intro m
  induction m using Nat.strongRecOn with
  | _ m ih =>
   rintro a1 w1 ⟨s1, R1, W1, hI, hn1, ht1⟩
   obtain ⟨e, a2, w2, hq, harr⟩ := round m s1 R1 hI w0 W0 R0 hl a1 w1 W1 hn1 ht1 b (.inLoop c :: k) cs
   cases e with
   | normal =>
    obtain ⟨s2, R2, W2, ⟨m', hm, hI2⟩, hn2, ht2⟩ := hq
    obtain ⟨e3, a3, w3, hq3, harr3⟩ := ih m' hm a2 w2 ⟨s2, R2, W2, hI2, hn2, ht2⟩
    exact ⟨e3, a3, w3, hq3, .of_steps (Steps.trans harr (.one step_inLoop)) harr3⟩
   | exit id => exact ⟨_, a2, w2, hq, .pass (x := .inLoop c) rfl (fun _ _ => .inl (by simp)) harr⟩
   | goto l => exact ⟨_, a2, w2, hq, .pass (x := .inLoop c) rfl (fun _ _ => .inl (by simp)) harr⟩
   | ret => exact ⟨_, a2, w2, hq, .pass (x := .inLoop c) rfl (fun _ _ => .inl (by simp)) harr⟩
   | panic ch => exact ⟨_, a2, w2, hq, .pass (x := .inLoop c) rfl (fun _ _ => .inl (by simp)) harr⟩
   | outgrown => exact ⟨_, a2, w2, hq, .pass (x := .inLoop c) rfl (fun _ _ => .inl (by simp)) harr⟩
 obtain ⟨e, a', w', hq, harr⟩ := key n0 a w ⟨s, R, W, h0, hn, ht⟩
 exact ⟨e, a', w', hq, .of_steps (.one step_loop) harr⟩

/-- What is told anew: fewer resources, in another order. -/
theorem Now.gc {w0 : World} {W0 : Wit} {R0 : List Res} {σ : List Nat} {a : Act} {w : World} {W : Wit} (h : Now N s R a w W) (ht : Trans w0 W0 R0 w W R) (hl : R0.length = n) (ho : okσ n R σ = true) :
  Now N (renS n σ s) (reR n σ R) a w (W.ren n σ) ∧ Trans w0 W0 R0 w (W.ren n σ) (reR n σ R) := by
 have hn : n ≤ R.length := hl ▸ ht.len
 exact ⟨⟨h.size, h.defers, fun t => by rw [get_renS]; exact (h.val t).ren hn ho, h.sep.ren hn ho⟩, ht.ren hl ho⟩

theorem G_gc {c : Code} (σ : List Nat) (ho : okσ n R σ = true) (h : GCode P N n c (renS n σ s) (reR n σ R) Q) : GCode P N n c s R Q := by
 intro w0 W0 R0 hl a w W hn ht
 obtain ⟨h1, h2⟩ := hn.gc ht hl ho
 exact h w0 W0 R0 hl a w _ h1 h2

theorem G_tidy {c : Code} (keep : List Nat) {base : Slots} {R' : List Res} (hb : keepOf s keep = base) (hR : R = R') (h : GCode P N n c base R' Q) : GCode P N n c s R Q := by
 subst hR
 subst hb
 exact GCode.sub (keep_sub s keep).sub h

theorem G_drop {c : Code} (keep : List Nat) (σ : List Nat) {base : Slots} {R' : List Res} (ho : okσ n R σ = true) (hb : renS n σ (keepOf s keep) = base) (hR : reR n σ R = R') (h : GCode P N n c base R' Q) : GCode P N n c s R Q := by
 subst hR
 subst hb
 exact GCode.sub (keep_sub s keep).sub (G_gc σ ho h)

/-- A loop: x says where it stands; what it turns is told by mods, what it keeps stands in base. -/
theorem G_for {α : Type} {c : Code} (keep : List Nat) (mods : α → Slots) (Rf : α → List Res) (I : α → Prop) (m : α → Nat) (x0 : α) {base : Slots} (hb : keepOf s keep = base) (h0 : I x0) (hR : R = Rf x0) (h1 : chk s (mods x0))
  (round : ∀ x, I x → GCode P N n c (mods x ++ base) (Rf x) (EThen (fun s' R' => ∃ y, m y < m x ∧ I y ∧ R' = Rf y ∧ chk s' (mods y) ∧ chk s' base) Q)) : GCode P N n (.loop c) s R Q := by
 refine G_loop (fun n s' R' => ∃ x, n = m x ∧ I x ∧ R' = Rf x ∧ chk s' (mods x) ∧ chk s' base) (m x0) ⟨x0, rfl, h0, hR, h1, by rw [← hb]; exact keep_sub s keep⟩ ?_
 rintro n s' R' ⟨x, rfl, hI, rfl, k1, k2⟩
 refine GCode.sub (Sub.app k1 k2.sub) ((round x hI).mono ?_)
 intro e s2 R2 h
 cases e with
 | normal =>
  obtain ⟨y, g1, g2⟩ := h
  exact ⟨m y, g1, y, rfl, g2⟩
 | exit id => exact h
 | goto l => exact h
 | ret => exact h
 | panic ch => exact h
 | outgrown => exact h

theorem Reach.gc {w0 : World} {W0 : Wit} {R0 : List Res} {K : Slots → List Res → Prop} {a : Act} {w : World} (hl : R0.length = n) (h : Reach N w0 W0 R0 (fun s' R' => ∃ σ, okσ n R' σ = true ∧ K (renS n σ s') (reR n σ R')) a w) : Reach N w0 W0 R0 K a w := by
 obtain ⟨s', R', W', ⟨σ, h1, h2⟩, h3, h4⟩ := h
 obtain ⟨k1, k2⟩ := h3.gc h4 hl h1
 exact ⟨_, _, _, h2, k1, k2⟩

/-- A loop whose rounds leave resources behind that are then forgotten. -/
theorem G_forD {α : Type} {c : Code} (keep : List Nat) (mods : α → Slots) (Rf : α → List Res) (I : α → Prop) (m : α → Nat) (x0 : α) {base : Slots} (hb : keepOf s keep = base) (h0 : I x0) (hR : R = Rf x0) (h1 : chk s (mods x0))
  (round : ∀ x, I x → GCode P N n c (mods x ++ base) (Rf x) (EThen (fun s' R' => ∃ σ, okσ n R' σ = true ∧ ∃ y, m y < m x ∧ I y ∧ reR n σ R' = Rf y ∧ chk (renS n σ s') (mods y) ∧ chk (renS n σ s') base) Q)) : GCode P N n (.loop c) s R Q := by
 refine G_for keep mods Rf I m x0 hb h0 hR h1 fun x hx => ?_
 intro w0 W0 R0 hl a w W hn ht
 refine wp_mono (round x hx w0 W0 R0 hl a w W hn ht) fun e a' w' hr => ?_
 cases e with
 | normal => exact Reach.gc hl hr
 | exit id => exact hr
 | goto l => exact hr
 | ret => exact hr
 | panic ch => exact hr
 | outgrown => exact hr

/-- Two roads meet. -/
theorem G_seqJ {α : Type} {x y : Code} (keep : List Nat) (mods : α → Slots) (Rf : α → List Res) (I : α → Prop) {base : Slots} (hb : keepOf s keep = base)
  (hx : GCode P N n x s R (EThen (fun s' R' => ∃ z, I z ∧ R' = Rf z ∧ chk s' (mods z) ∧ chk s' base) Q)) (hy : ∀ z, I z → GCode P N n y (mods z ++ base) (Rf z) Q) : GCode P N n (.seq x y) s R Q := by
 refine G_seq (hx.mono ?_)
 intro e s2 R2 h
 cases e with
 | normal =>
  obtain ⟨z, g1, rfl, g3, g4⟩ := h
  exact GCode.sub (Sub.app g3 g4.sub) (hy z g1)
 | exit id => exact h
 | goto l => exact h
 | ret => exact h
 | panic ch => exact h
 | outgrown => exact h

/-- Two roads meet that leave resources behind. -/
theorem G_seqD {α : Type} {x y : Code} (keep : List Nat) (mods : α → Slots) (Rf : α → List Res) (I : α → Prop) {base : Slots} (hb : keepOf s keep = base)
  (hx : GCode P N n x s R (EThen (fun s' R' => ∃ σ, okσ n R' σ = true ∧ ∃ z, I z ∧ reR n σ R' = Rf z ∧ chk (renS n σ s') (mods z) ∧ chk (renS n σ s') base) Q)) (hy : ∀ z, I z → GCode P N n y (mods z ++ base) (Rf z) Q) : GCode P N n (.seq x y) s R Q := by
 refine G_seqJ keep mods Rf I hb ?_ hy
 intro w0 W0 R0 hl a w W hn ht
 refine wp_mono (hx w0 W0 R0 hl a w W hn ht) fun e a' w' hr => ?_
 cases e with
 | normal => exact Reach.gc hl hr
 | exit id => exact hr
 | goto l => exact hr
 | ret => exact hr
 | panic ch => exact hr
 | outgrown => exact hr

theorem G_region' {id : Nat} {ops : Array Oper} {L : List Nat} (hL : List.range ops.size = L) (h : EOps P N ops L s R (Q .normal)) : GCode P N n (.region id ops false) s R Q := G_E (E_region' hL h)

theorem G_bound {c : Code} {t : Nat} {rows : List (List T)} (hs : get s t = .c (.ro rows)) (h : rows.length ≤ 9223372036854775807 → GCode P N n c s R Q) : GCode P N n c s R Q := by
 intro w0 W0 R0 hl a w W hn ht
 have hv := hn.val t
 rw [hs] at hv
 exact h (AR.ro_len hv) w0 W0 R0 hl a w W hn ht
end

/-- An empty slice in a variable, that is nil, told as a row with nothing in it. -/
theorem view_ghostB {N : Nat} {s : Slots} {R : List Res} (i j e k : Nat) {cs : List AC} (hR : R[i]? = some (.box cs)) (hc : cs[j]? = some (.sc (.slice none 0 0))) (hk : 0 < k) {a : Act} {w : World} {W : Wit} (hn : Now N s R a w W) :
  ∃ W', Now N s (List.set (R ++ [Res.row e k []]) i (.box (cs.set j (.sl R.length 0 0 0)))) a w W' ∧ Trans w W R w W' (List.set (R ++ [Res.row e k []]) i (.box (cs.set j (.sl R.length 0 0 0)))) := by
 have hi : i < R.length := by
  rcases Nat.lt_or_ge i R.length with h' | h'
  ·exact h'
  ·rw [List.getElem?_eq_none h'] at hR; cases hR
 obtain ⟨W1, t1, s1, q1⟩ := hn.sep.row (w' := w) (e := e) (k := k) (rows := []) (cells := []) (v := .slice none 0 0) rfl rfl rfl (Nat.le_refl _) (fun _ _ => rfl) hk (by simp) (World.ownsRow_nil w 0 e k) (fun b hb => by cases hb) (by exact (Ow.nil : Ow w [] [] _))
 have hR1 : (R ++ [Res.row e k []])[i]? = some (.box cs) := by rw [List.getElem?_append_left hi]; exact hR
 have hi1 : i < (R ++ [Res.row e k []]).length := by simp; omega
 have tr : Trans w W1 (R ++ [Res.row e k []]) w W1 ((R ++ [Res.row e k []]).set i (.box (cs.set j (.sl R.length 0 0 0)))) := by
  refine ⟨rfl, rfl, rfl, Nat.le_refl _, fun _ _ => rfl, fun m b hb => .inl ⟨m, hb⟩, fun m => ?_⟩
  by_cases em : i = m
  ·subst em; rw [List.getElem?_set_self hi1, hR1]; rfl
  ·rw [List.getElem?_set_ne em]; exact Goes.refl _ _
 have sp : Sep w W1 ((R ++ [Res.row e k []]).set i (.box (cs.set j (.sl R.length 0 0 0)))) :=
  s1.step tr i (fun m h1 _ => by simpa using h1) (fun m h1 _ => List.getElem?_set_ne (Ne.symm h1)) (fun _ _ => rfl) (fun _ _ _ => Iff.rfl) (fun _ _ _ _ => rfl)
   (fun q hq => by
    rw [List.getElem?_set_self hi1] at hq
    obtain rfl := Option.some.inj hq
    obtain ⟨b, arr, e', f1, f2, f3, f4⟩ := s1.res i _ hR1
    refine ⟨b, arr, e', f1, f2, f3, ?_⟩
    refine (AR.setAt j f4 hc (fun v hv => ?_)).next tr
    have hv' : v = .slice none 0 0 := AR.sc_inv hv
    exact sl_whole (W' := W1) (R' := R ++ [.row e k []]) (w' := w) (i := R.length) (n := 0) (e := e) (k := k) (rows := []) (v := v) (by simp) rfl (q1.trans hv'.symm) (by rw [hv']; rfl) s1)
   (fun b hb => .inl hb) (fun b hb => s1.lt i b hb) (fun h' => absurd hi1 (by simp at h' ⊢; omega)) (fun h' => by rw [List.getElem?_set_self hi1] at h'; cases h')
 exact ⟨W1, (hn.next t1 s1).next tr sp, t1.trans tr⟩

theorem G_ghostB {P : Program} {N n : Nat} {s : Slots} {R : List Res} {Q : Exit → Slots → List Res → Prop} {c : Code} (i j e k : Nat) {cs : List AC} (hR : R[i]? = some (.box cs)) (hc : cs[j]? = some (.sc (.slice none 0 0))) (hk : 0 < k)
  (h : GCode P N n c s (List.set (R ++ [Res.row e k []]) i (.box (cs.set j (.sl R.length 0 0 0)))) Q) : GCode P N n c s R Q := by
 intro w0 W0 R0 hl a w W hn ht
 obtain ⟨W1, h1, h2⟩ := view_ghostB i j e k hR hc hk hn
 exact h w0 W0 R0 hl a w W1 h1 (ht.trans h2)

end Go.Proofs.YthnadkagchbhbaaGreat.E

namespace Go.Proofs.YthnadkagchbhbaaGreat.E
open Go Go.RowKit
set_option linter.unusedVariables false
set_option linter.unusedSimpArgs false

def lov (s : Slots) : Option Operand → Option Int
 | none => some 0
 | some x => match ev s x with | .c (.sc (.int .i64 i)) => some i | _ => none
def hiv (n : Nat) (s : Slots) : Option Operand → Option Int
 | none => some n
 | some x => match ev s x with | .c (.sc (.int .i64 i)) => some i | _ => none

section
variable {P : Program} {N : Nat} {s : Slots} {R : List Res} {o : Oper} {t e k : Nat} {b : Bool} {x : Operand} {lo hi : Option Operand} {l h : Int}

theorem now_int {a : Act} {w : World} {W : Wit} (hn : Now N s R a w W) {x : Operand} {i : Int} (hx : (match E.ev s x with | .c (.sc (.int .i64 i)) => some i | _ => none) = some i) : a.eval x = .int .i64 i := by
 split at hx
 ·rename_i j e
  obtain rfl := Option.some.inj hx
  exact hn.sc e
 ·cases hx

theorem run_cut {a : Act} {w : World} {W : Wit} (hn : Now N s R a w W) {ad : Option Addr} {n c : Nat} (ho : o.op = .slice t x lo hi none) (ht : isSlice P t = some e) (hty : tyIs P e = some (b, k)) (hx : a.eval x = .slice ad n c) (hl : lov s lo = some l) (hh : hiv n s hi = some h)
  (h0 : 0 ≤ l) (h1 : l ≤ h) (h2 : h ≤ n) (hc : n ≤ c) (w' : World) : (execOp a.eval o).run P w' = .ok (.value (sliced ad l.toNat h.toNat c k)) w' := by
 have hu := isSlice_of ht
 have he : P.elem t = e := by simp [Program.elem, hu]
 have hu' : P.underlying t = some (.slice (P.elem t)) := by rw [he]; exact hu
 have hs := run_sizeOf_ hty
 rw [← he] at hs
 simp only [execOp, ho, hx, Option.map_none, Sem.run_bind]
 cases lo with
 | none =>
  obtain rfl : 0 = l := Option.some.inj hl
  cases hi with
  | none =>
   obtain rfl : (n : Int) = h := Option.some.inj hh
   simp only [Option.map_none, run_sliceAt_slice w' t _ _ _ _ hu', run_slice_all w' t ad n c hu', hs w', Result.andThen_ok]
   rfl
  | some y =>
   have hy := now_int hn hh
   simp only [Option.map_none, Option.map_some, hy, run_sliceAt_slice w' t _ _ _ _ hu', run_slice_h w' t ad n c hu' .i64 h (by omega) (by omega), hs w', Result.andThen_ok]
   rfl
 | some z =>
  have hz := now_int hn hl
  cases hi with
  | none =>
   obtain rfl : (n : Int) = h := Option.some.inj hh
   simp only [Option.map_none, Option.map_some, hz, run_sliceAt_slice w' t _ _ _ _ hu', run_slice_l w' t ad n c hu' .i64 l (by omega) (by omega), hs w', Result.andThen_ok]
   rfl
  | some y =>
   have hy := now_int hn hh
   simp only [Option.map_none, Option.map_some, hz, hy, run_sliceAt_slice w' t _ _ _ _ hu', run_slice_lh w' t ad n c hu' .i64 .i64 l h (by omega) (by omega) (by omega), hs w', Result.andThen_ok]
   rfl

/-- A part of what is read. -/
theorem Rd.cut {w : World} {O : Nat → Prop} {rows : List (List T)} {v : Value} {l h k : Nat} (hr : Rd w O [.sl rows] [v]) (h1 : l ≤ h) (h2 : h ≤ rows.length) (hk : ∀ r ∈ rows, r.length = k) :
  ∃ ad c, v = .slice ad rows.length c ∧ rows.length ≤ c ∧ Rd w O [.sl ((rows.drop l).take (h - l))] [sliced ad l h c k] := by
 cases hr with
 | @sl _ ad c inner _ _ k0 g1 g2 g3 g4 g5 _ =>
  refine ⟨ad, c, rfl, g1.1, ?_⟩
  have hlen : ((rows.drop l).take (h - l)).length = h - l := by rw [List.length_take, List.length_drop]; omega
  have key := Rd.sl (w := w) (O := O) (rows := (rows.drop l).take (h - l)) (a := if c = l then ad else ad.map (·.add (l * k))) (c := c - l) (inner := (inner.drop (l * k0)).take ((h - l) * k0)) (ts := []) (vs := []) k0 ⟨by omega, by have := g1.2; omega⟩ g2
   (fun r hr => g3 r (List.mem_of_mem_drop (List.mem_of_mem_take hr)))
   (fun hp => by
    have hne : rows ≠ [] := by intro e; subst e; simp at hp
    obtain ⟨r, rs, rfl⟩ := List.exists_cons_of_ne_nil hne
    obtain rfl : k = k0 := by rw [← hk r (List.mem_cons_self ..), g3 r (List.mem_cons_self ..)]
    obtain ⟨b, o, e, hb, hc⟩ := g4 (by simp)
    have hcl : ¬ c = l := by have := g1.1; simp only [hlen] at hp; omega
    refine ⟨b, o + l * k, by rw [if_neg hcl, e]; simp [add_plain], hb, fun j u hj => ?_⟩
    rw [List.getElem?_take] at hj
    split at hj
    ·rw [List.getElem?_drop] at hj
     have := hc _ u hj
     rwa [Nat.add_assoc]
    ·cases hj)
   (by rw [flatten_sub g3]; exact (g5.drop _).take _) .nil
  rw [hlen] at key
  exact key

theorem AR.ro_rd {W : Wit} {R : List Res} {w : World} {rows : List (List T)} {v : Value} (h : AR W R w [.ro rows] [v]) : Rd w (W.out w) [.sl rows] [v] := by
 cases h with
 | ro h _ => exact h
theorem AR.sl_inv {W : Wit} {R : List Res} {w : World} {i off len tot : Nat} {v : Value} (h : AR W R w [.sl i off len tot] [v]) : v.oneCell' = true ∧ ∀ e k rows, R[i]? = some (.row e k rows) → tot ≤ rows.length ∧ (rows.length = tot → slAt (W.hs i) v k off len) := by
 cases h with
 | sl h1 _ h3 _ => exact ⟨h1, h3⟩

/-- What is only read is cut. -/
theorem L_slice_ro {rows : List (List T)} {l h : Nat} (ho : o.op = .slice t x lo hi none) (ht : isSlice P t = some e) (hty : tyIs P e = some (b, k)) (hx : E.ev s x = .c (.ro rows)) (hl : lov s lo = some (l : Int)) (hh : hiv rows.length s hi = some (h : Int))
  (h1 : l ≤ h) (h2 : h ≤ rows.length) (hk : ∀ r ∈ rows, r.length = k) : Pure P o s R (.c (.ro ((rows.drop l).take (h - l)))) := fun N a w W hn => by
 have hv := hn.ev x
 rw [hx] at hv
 have hv' : AR W R w [.ro rows] [a.eval x] := hv
 obtain ⟨ad, c, e1, e2, e3⟩ := hv'.ro_rd.cut h1 h2 hk
 refine ⟨sliced ad l h c k, AR.ro e3 .nil, fun w' => ?_⟩
 have := run_cut hn ho ht hty e1 hl hh (by omega) (by omega) (by omega) e2 w'
 simpa using this

/-- A slice of one's own is cut. -/
theorem L_slice_sl {rows : List (List T)} {e' i off len tot l h : Nat} (ho : o.op = .slice t x lo hi none) (ht : isSlice P t = some e) (hty : tyIs P e = some (b, k)) (hx : E.ev s x = .c (.sl i off len tot)) (hR : R[i]? = some (.row e' k rows)) (htot : rows.length = tot)
  (hl : lov s lo = some (l : Int)) (hh : hiv len s hi = some (h : Int)) (h1 : l ≤ h) (h2 : h ≤ len) : Pure P o s R (.c (.sl i (off + l) (h - l) tot)) := fun N a w W hn => by
 have hv := hn.ev x
 rw [hx] at hv
 have hlt : i < R.length := by
  rcases Nat.lt_or_ge i R.length with h' | h'
  ·exact h'
  ·rw [List.getElem?_eq_none h'] at hR; cases hR
 have hv' : AR W R w [.sl i off len tot] [a.eval x] := hv
 obtain ⟨hone, hat⟩ := hv'.sl_inv
 obtain ⟨g1, g2⟩ := hat _ _ _ hR
 obtain ⟨a0, n0, c0, f1, f2, f3⟩ := g2 htot
 have mk : ∀ v, v.oneCell' = true → slAt (W.hs i) v k (off + l) (h - l) → AVR W R w (.c (.sl i (off + l) (h - l) tot)) v := fun v h1 h2 => by
  refine AR.sl h1 hlt (fun e2 k2 rows2 hr => ?_) .nil
  rw [hR] at hr
  obtain ⟨rfl, rfl, rfl⟩ : e' = e2 ∧ k = k2 ∧ rows = rows2 := by cases hr; exact ⟨rfl, rfl, rfl⟩
  exact ⟨g1, fun _ => h2⟩
 rcases f3 with f3 | ⟨rfl, f0, a2, c2, f3, f4⟩
 ·have hcap : len ≤ c0 - off := by
   obtain ⟨k1, k2, cells, G, k3, _⟩ := hn.sep.res i _ hR
   obtain ⟨a', c', q1, q2, qm, _⟩ := ownsRow_reads k3
   rw [f1] at q1
   obtain ⟨-, rfl, rfl⟩ : a0 = a' ∧ n0 = rows.length ∧ c0 = c' := by cases q1; exact ⟨rfl, rfl, rfl⟩
   omega
  refine ⟨_, mk (sliced (a0.map fun b => ⟨b.block, off * k, none⟩) l h (c0 - off) k) rfl ⟨a0, n0, c0, f1, by omega, ?_⟩, fun w' => ?_⟩
  ·by_cases hm : c0 - off = l
   ·by_cases hz : off + l = 0
    ·refine .inl ?_
     obtain ⟨rfl, rfl⟩ : off = 0 ∧ l = 0 := by omega
     simp [sliced, hm]
    ·refine .inr ⟨by omega, by omega, _, _, by unfold sliced; rw [show h - l = 0 by omega], ?_⟩
     simp [hm]
   ·refine .inl ?_
    unfold sliced
    rw [if_neg hm, Nat.sub_sub, Option.map_map]
    congr 2
    funext q
    simp [add_plain, Nat.add_mul]
  ·have := run_cut hn ho ht hty f3 hl hh (by omega) (by omega) (by omega) hcap w'
   simpa using this
 ·obtain ⟨rfl, rfl⟩ : l = 0 ∧ h = 0 := by omega
  refine ⟨_, mk (sliced a2 0 0 c2 k) rfl ⟨a0, n0, c0, f1, by omega, .inr ⟨rfl, by omega, _, _, rfl, by omega⟩⟩, fun w' => ?_⟩
  have := run_cut hn ho ht hty f3 hl hh (by omega) (by omega) (by omega) (Nat.zero_le _) w'
  simpa using this
end

theorem Pure.as {P : Program} {o : Oper} {s : Slots} {R : List Res} {y y' : AV} (h : Pure P o s R y) (e : y = y') : Pure P o s R y' := e ▸ h
theorem ints_cut (xs : List Int) (l n : Nat) : ((ints xs).drop l).take n = ints ((xs.drop l).take n) := by simp [ints, List.map_take, List.map_drop]
theorem pairs_cut (xs : List (Int × Int)) (l n : Nat) : ((pairs xs).drop l).take n = pairs ((xs.drop l).take n) := by simp [pairs, List.map_take, List.map_drop]
theorem bools_cut (xs : List Bool) (l n : Nat) : ((bools xs).drop l).take n = bools ((xs.drop l).take n) := by simp [bools, List.map_take, List.map_drop]
theorem pairs_take (xs : List (Int × Int)) (n : Nat) : (pairs xs).take n = pairs (xs.take n) := by simp [pairs, List.map_take]
theorem bools_take (xs : List Bool) (n : Nat) : (bools xs).take n = bools (xs.take n) := by simp [bools, List.map_take]
end Go.Proofs.YthnadkagchbhbaaGreat.E

namespace Go.Proofs.YthnadkagchbhbaaGreat.E
open Go Go.RowKit
set_option linter.unusedVariables false
set_option linter.unusedSimpArgs false

/-- What of a value can be told of the world before. -/
def back1 : AV → AV
 | .c (.sc v) => .c (.sc v)
 | .tup [] => .tup []
 | _ => .any

theorem back1_rel {W W1 : Wit} {R R1 : List Res} {w w1 : World} {y : AV} {v : Value} (h : AVR W R w y v) : AVR W1 R1 w1 (back1 y) v := by
 unfold back1
 split
 ·have h' : AR W R w [.sc _] [v] := h
  obtain rfl := AR.sc_inv h'
  cases h' with
  | sc h1 _ => exact AR.sc1 h1
 ·obtain ⟨us, e, hl, _⟩ := h
  obtain rfl : us = [] := List.length_eq_zero_iff.1 hl
  exact ⟨[], e, rfl, fun i x u h => by simp at h⟩
 ·exact AVR.any ..

/-! ### Whatever order is picked; the condition on the world may change behind an operation before or behind which all others have to come -/
section
variable {P : Program} {md : Region.Mode} {ops : Array Oper} {Q : Exit → Act → World → Prop}

/-- What has come up has all before it that has to be. -/
def Closed (md : Region.Mode) (ops : Array Oper) (listed : Array Bool) : Prop :=
 ∀ k o, ops[k]? = some o → listed.getD k false = true → ∀ e ∈ o.after, Region.binds md e = true → listed.getD e.on false = true

theorem Closed.start (md : Region.Mode) (ops : Array Oper) (n : Nat) : Closed md ops (Array.replicate n false) := fun k o _ h => by
 simp only [Array.getD_eq_getD_getElem?, Array.getElem?_replicate] at h
 split at h <;> simp at h

theorem getD_set_back {listed : Array Bool} {i k : Nat} (h : (listed.setIfInBounds i true).getD k false = true) : k = i ∨ listed.getD k false = true := by
 by_cases hk : i = k
 ·exact .inl hk.symm
 ·refine .inr ?_
  simpa [Array.getD_eq_getD_getElem?, Array.getElem?_setIfInBounds_ne hk] using h

theorem Closed.step {listed : Array Bool} {i : Nat} (h : Closed md ops listed) (hi : i ∈ Region.ready md ops listed) : Closed md ops (listed.setIfInBounds i true) := fun k o ho hk e he hb => by
 rcases getD_set_back hk with rfl | hk
 ·obtain ⟨_, o', ho', hall⟩ := mem_ready.1 hi
  obtain rfl : o' = o := by rw [ho] at ho'; exact (Option.some.inj ho').symm
  exact getD_set_true (hall e he hb)
 ·exact getD_set_true (h k o ho hk e he hb)

/-- Copies: what they yield hangs on no memory; and what makes a variable. -/
def isMv (o : Oper) : Bool := match o.op with | .move _ => true | .assign _ => true | .extract _ _ => true | .build _ _ => true | .fieldAddr _ _ _ => true | .indexAddr _ _ _ => true | .pick _ _ _ => true | .binOp _ _ _ _ _ => true | .unOp _ _ _ => true | .makeFunc _ _ _ => true | .alloc _ => true | _ => false

def Dom (md : Region.Mode) (ops : Array Oper) (j : Nat) : Prop := ∀ listed, Closed md ops listed → j ∈ Region.ready md ops listed → ∀ i ∈ Region.ready md ops listed, i = j ∨ ∃ o, ops[i]? = some o ∧ isMv o = true

/-- Who has to come before j. -/
def befores (md : Region.Mode) (ops : Array Oper) : Nat → List Nat → List Nat
 | 0, l => l
 | k + 1, l => befores md ops k (if l.contains k then l ++ (match ops[k]? with | some o => (o.after.toList.filter (Region.binds md)).map (·.on) | none => []) else l)

def domB (md : Region.Mode) (ops : Array Oper) (j : Nat) : Bool :=
 let b := befores md ops (j + 1) [j]
 (List.range ops.size).all fun k => k == j || b.contains k || (befores md ops (k + 1) [k]).contains j || (match ops[k]? with | some o => isMv o | none => true)

theorem befores_listed {listed : Array Bool} {j : Nat} (hc : Closed md ops listed) (hj : j ∈ Region.ready md ops listed) : ∀ (n : Nat) (l : List Nat), (∀ m ∈ l, m = j ∨ listed.getD m false = true) → ∀ m ∈ befores md ops n l, m = j ∨ listed.getD m false = true
 | 0, l, h => h
 | k + 1, l, h => by
  refine befores_listed hc hj k _ ?_
  split
  ·rename_i hk
   have hk' : k ∈ l := by simpa using hk
   intro m hm
   rcases List.mem_append.1 hm with hm | hm
   ·exact h m hm
   ·cases ho : ops[k]? with
    | none => rw [ho] at hm; simp at hm
    | some o =>
     rw [ho] at hm
     simp only [List.mem_map, List.mem_filter] at hm
     obtain ⟨e, ⟨he, hb⟩, rfl⟩ := hm
     have he' : e ∈ o.after := by simpa using he
     refine .inr ?_
     rcases h k hk' with rfl | hl
     ·obtain ⟨_, o', ho', hall⟩ := mem_ready.1 hj
      obtain rfl : o' = o := by rw [ho] at ho'; exact (Option.some.inj ho').symm
      exact hall e he' hb
     ·exact hc k o ho hl e he' hb
  ·exact h

theorem ready_out {listed : Array Bool} {i : Nat} (hi : i ∈ Region.ready md ops listed) : listed.getD i false = false := by
 obtain ⟨h, _⟩ := mem_ready.1 hi
 simp only [Array.getD_eq_getD_getElem?] at h ⊢
 cases hx : listed[i]? with
 | none => rfl
 | some x => rw [hx] at h; exact h

theorem dom_of {j : Nat} (h : domB md ops j = true) : Dom md ops j := by
 intro listed hc hj i hi
 have hlt : i < ops.size := by
  obtain ⟨_, o, ho, _⟩ := mem_ready.1 hi
  exact (Array.getElem?_eq_some_iff.1 ho).1
 simp only [domB, List.all_eq_true, Bool.or_eq_true, List.mem_range, beq_iff_eq] at h
 rcases h i hlt with ((h | h) | h) | h
 ·exact .inl h
 ·have hm : i ∈ befores md ops (j + 1) [j] := by simpa using h
  rcases befores_listed hc hj (j + 1) [j] (fun m hm => .inl (by simpa using hm)) i hm with h | h
  ·exact .inl h
  ·rw [ready_out hi] at h; cases h
 ·have hm : j ∈ befores md ops (i + 1) [i] := by simpa using h
  rcases befores_listed hc hi (i + 1) [i] (fun m hm => .inl (by simpa using hm)) j hm with h | h
  ·exact .inl h.symm
  ·rw [ready_out hj] at h; cases h
 ·cases ho : ops[i]? with
  | none => rw [Array.getElem?_eq_none_iff] at ho; omega
  | some o => rw [ho] at h; exact .inr ⟨o, rfl, h⟩

def wpAnyJ (P : Program) (md : Region.Mode) (ops : Array Oper) (Q : Exit → Act → World → Prop) : Nat → (World → Prop) → Array Bool → Act → World → Prop
 | 0, _, listed, a, w => Region.ready md ops listed = [] ∧ Q .normal a w
 | fuel + 1, S, listed, a, w =>
  (Region.ready md ops listed = [] → Q .normal a w) ∧
  ∀ i ∈ Region.ready md ops listed, wpOp P ops Q i (fun a' w' => (S w' ∧ wpAnyJ P md ops Q fuel S (listed.setIfInBounds i true) a' w') ∨ (Dom md ops i ∧ ∃ S' : World → Prop, S' w' ∧ wpAnyJ P md ops Q fuel S' (listed.setIfInBounds i true) a' w')) a w

theorem wpAny_of_J : ∀ (fuel : Nat) (S : World → Prop) (listed : Array Bool) (a : Act) (w : World), wpAnyJ P md ops Q fuel S listed a w → wpAny P md ops Q fuel listed a w
 | 0, _, _, _, _, h => h
 | fuel + 1, _, _, _, _, h => ⟨h.1, fun i hi => wpOp_mono (fun a' w' h' => by
   rcases h' with h' | ⟨_, S', _, h'⟩
   ·exact wpAny_of_J fuel _ _ a' w' h'.2
   ·exact wpAny_of_J fuel _ _ a' w' h') (h.2 i hi)⟩

theorem wpAnyJ_first {S : World → Prop} {i : Nat} {oi : Oper} {v : Value} (hi : ops[i]? = some oi) (hsel : ∀ (j : Nat) (o : Oper) cs b, ops[j]? = some o → o.op ≠ .select cs b)
  (hnm : isMv oi = false) (hQ : ∀ c a w, Q (.panic c) (a.put oi.dst v) w → Q (.panic c) a w) :
  ∀ (fuel : Nat) (listed : Array Bool) (a : Act) (w : World), Closed md ops listed →
   (∀ j oj, ops[j]? = some oj → j ≠ i → listed.getD j true = false → (∀ e ∈ oj.after, Region.binds md e = true → e.on ≠ i) → oi.apart ops oj = true) →
   i ∈ Region.ready md ops listed → YieldsIf P ops S oi v a → S w →
   wpAnyJ P md ops Q fuel S (listed.setIfInBounds i true) (a.put oi.dst v) w → wpAnyJ P md ops Q (fuel + 1) S listed a w := by
 intro fuel
 induction fuel with
 | zero =>
  intro listed a w hc _ hr hy hS H
  refine ⟨fun h => (by rw [h] at hr; cases hr), fun j hj => ?_⟩
  by_cases hji : j = i
  ·subst hji; exact hy.wpOp hi hS (.inl ⟨hS, H⟩)
  ·have := ready_mono hj hji
   rw [H.1] at this
   cases this
 | succ fuel ih =>
  intro listed a w hc hfree hr hy hS H
  refine ⟨fun h => (by rw [h] at hr; cases hr), fun j hj => ?_⟩
  by_cases hji : j = i
  ·subst hji; exact hy.wpOp hi hS (.inl ⟨hS, H⟩)
  ·have h1 := H.2 j (ready_mono hj hji)
   obtain ⟨hjun, oj, hoj, hall⟩ := mem_ready.1 hj
   have hnot : ∀ e ∈ oj.after, Region.binds md e = true → e.on ≠ i := fun e he hb heq => by
    have h1 := hall e he hb
    rw [heq, ready_out hr] at h1
    cases h1
   have h2 := wpOp_putIf hoj (hfree j oj hoj hji hjun hnot) (fun cs b => hsel i oi cs b hi) (fun cs b => hsel j oj cs b hoj) hQ hy h1
   have hfree' : ∀ k ok, ops[k]? = some ok → k ≠ i → (listed.setIfInBounds j true).getD k true = false →
     (∀ e ∈ ok.after, Region.binds md e = true → e.on ≠ i) → oi.apart ops ok = true := fun k ok hk hki hun hno => by
    refine hfree k ok hk hki ?_ hno
    by_cases hjk : j = k
    ·subst hjk; exact hjun
    ·rw [getD_set_ne true hjk] at hun; exact hun
   refine wpOp_mono (fun a' w' h3 => ?_) h2
   obtain ⟨h4, h3⟩ := h3
   rcases h3 with ⟨h5, h6⟩ | ⟨hdom, _⟩
   ·refine .inl ⟨h5, ih (listed.setIfInBounds j true) a' w' (hc.step hj) hfree' (ready_mono hr (Ne.symm hji)) h4 h5 ?_⟩
    rw [Array.setIfInBounds_comm _ _ hji]
    exact h6
   ·rcases hdom listed hc hj i hr with h | ⟨o, ho, hm⟩
    ·exact absurd h.symm hji
    ·rw [hi] at ho; cases ho; rw [hnm] at hm; cases hm

theorem wpAnyJ_pure {i : Nat} {oi : Oper} {v : Value} (hi : ops[i]? = some oi) (hsel : ∀ (j : Nat) (o : Oper) cs b, ops[j]? = some o → o.op ≠ .select cs b)
  (hQ : ∀ c a w, Q (.panic c) (a.put oi.dst v) w → Q (.panic c) a w) :
  ∀ (fuel : Nat) (S : World → Prop) (listed : Array Bool) (a : Act) (w : World), Closed md ops listed →
   (∀ j oj, ops[j]? = some oj → j ≠ i → listed.getD j true = false → (∀ e ∈ oj.after, Region.binds md e = true → e.on ≠ i) → oi.apart ops oj = true) →
   i ∈ Region.ready md ops listed → YieldsIf P ops (fun _ => True) oi v a → S w →
   wpAnyJ P md ops Q fuel S (listed.setIfInBounds i true) (a.put oi.dst v) w → wpAnyJ P md ops Q (fuel + 1) S listed a w := by
 intro fuel
 induction fuel with
 | zero =>
  intro S listed a w hc _ hr hy hS H
  refine ⟨fun h => (by rw [h] at hr; cases hr), fun j hj => ?_⟩
  by_cases hji : j = i
  ·subst hji; exact hy.wpOp hi trivial (.inl ⟨hS, H⟩)
  ·have := ready_mono hj hji
   rw [H.1] at this
   cases this
 | succ fuel ih =>
  intro S listed a w hc hfree hr hy hS H
  refine ⟨fun h => (by rw [h] at hr; cases hr), fun j hj => ?_⟩
  by_cases hji : j = i
  ·subst hji; exact hy.wpOp hi trivial (.inl ⟨hS, H⟩)
  ·have h1 := H.2 j (ready_mono hj hji)
   obtain ⟨hjun, oj, hoj, hall⟩ := mem_ready.1 hj
   have hnot : ∀ e ∈ oj.after, Region.binds md e = true → e.on ≠ i := fun e he hb heq => by
    have h1 := hall e he hb
    rw [heq, ready_out hr] at h1
    cases h1
   have h2 := wpOp_putIf hoj (hfree j oj hoj hji hjun hnot) (fun cs b => hsel i oi cs b hi) (fun cs b => hsel j oj cs b hoj) hQ hy h1
   have hfree' : ∀ k ok, ops[k]? = some ok → k ≠ i → (listed.setIfInBounds j true).getD k true = false →
     (∀ e ∈ ok.after, Region.binds md e = true → e.on ≠ i) → oi.apart ops ok = true := fun k ok hk hki hun hno => by
    refine hfree k ok hk hki ?_ hno
    by_cases hjk : j = k
    ·subst hjk; exact hjun
    ·rw [getD_set_ne true hjk] at hun; exact hun
   refine wpOp_mono (fun a' w' h3 => ?_) h2
   obtain ⟨h4, h3⟩ := h3
   rcases h3 with ⟨h5, h6⟩ | ⟨hdom, S', h5, h6⟩
   ·refine .inl ⟨h5, ih S (listed.setIfInBounds j true) a' w' (hc.step hj) hfree' (ready_mono hr (Ne.symm hji)) h4 h5 ?_⟩
    rw [Array.setIfInBounds_comm _ _ hji]
    exact h6
   ·refine .inr ⟨hdom, S', h5, ih S' (listed.setIfInBounds j true) a' w' (hc.step hj) hfree' (ready_mono hr (Ne.symm hji)) h4 h5 ?_⟩
    rw [Array.setIfInBounds_comm _ _ hji]
    exact h6

theorem wpAnyJ_take0 {S : World → Prop} {i : Nat} {oi : Oper} {v : Value} {fuel : Nat} {listed : Array Bool} {a : Act} {w : World} (hc : Closed md ops listed) (hi : ops[i]? = some oi)
  (hs : Region.noSelect ops = true) (hf : Region.free md ops listed i = true) (hr : (Region.ready md ops listed).contains i = true)
  (hQ : ∀ c a w, Q (.panic c) (a.put oi.dst v) w → Q (.panic c) a w) (hy : YieldsIf P ops (fun _ => True) oi v a) (hS : S w)
  (h : wpAnyJ P md ops Q fuel S (listed.setIfInBounds i true) (a.put oi.dst v) w) : wpAnyJ P md ops Q (fuel + 1) S listed a w :=
 wpAnyJ_pure hi (Region.noSelect_spec hs) hQ fuel S listed a w hc (Region.free_spec hi hf) (by simpa using hr) hy hS h

theorem wpAnyJ_take {S : World → Prop} {i : Nat} {oi : Oper} {v : Value} {fuel : Nat} {listed : Array Bool} {a : Act} {w : World} (hc : Closed md ops listed) (hi : ops[i]? = some oi) (hnm : isMv oi = false)
  (hs : Region.noSelect ops = true) (hf : Region.free md ops listed i = true) (hr : (Region.ready md ops listed).contains i = true)
  (hQ : ∀ c a w, Q (.panic c) (a.put oi.dst v) w → Q (.panic c) a w) (hy : YieldsIf P ops S oi v a) (hS : S w)
  (h : wpAnyJ P md ops Q fuel S (listed.setIfInBounds i true) (a.put oi.dst v) w) : wpAnyJ P md ops Q (fuel + 1) S listed a w :=
 wpAnyJ_first hi (Region.noSelect_spec hs) hnm hQ fuel listed a w hc (Region.free_spec hi hf) (by simpa using hr) hy hS h

theorem wpAnyJ_done {S : World → Prop} {listed : Array Bool} {a : Act} {w : World} (hr : Region.ready md ops listed = []) (h : Q .normal a w) : ∀ fuel, wpAnyJ P md ops Q fuel S listed a w
 | 0 => ⟨hr, h⟩
 | _ + 1 => ⟨fun _ => h, by rw [hr]; simp⟩
end

/-- s1, R1: what is known of the region's beginning; s, R: of now. -/
def EAnyT (P : Program) (N : Nat) (ops : Array Oper) (s1 : Slots) (R1 : List Res) (fuel : Nat) (listed : Array Bool) (s : Slots) (R : List Res) (K : Slots → List Res → Prop) : Prop :=
 ∀ (G : Act → World → Prop) (w1 : World) (W1 : Wit) a w W, Now N s1 R1 a w1 W1 → Trans w1 W1 R1 w W R → Now N s R a w W → Below w1.heap.size w1 w → Closed .any ops listed → (∀ a' w', Reach N w W R K a' w' → G a' w') →
  wpAnyJ P .any ops (fun ex a' w' => ex = .normal ∧ G a' w') fuel (fun w' => Below w1.heap.size w1 w') listed a w

section
variable {P : Program} {N n : Nat} {ops : Array Oper} {s s1 : Slots} {R R1 : List Res} {K : Slots → List Res → Prop} {fuel : Nat} {listed listed' : Array Bool}

theorem E_drawT {id : Nat} {Q : Exit → Slots → List Res → Prop} (hm : P.follows .mixedOrders = true) (h : EAnyT P N ops s R ops.size (Array.replicate ops.size false) s R (Q .normal)) : ECode P N (.region id ops true) s R Q := by
 intro a w W hn
 obtain ⟨h1, h2⟩ := hn.draw
 have := h (fun a' w' => Reach N w W R (Q .normal) a' w') { w with drawn := w.drawn + 1 } W a _ W h1 (.refl ..) h1 (Below.refl _ _) (Closed.start _ _ _) fun a' w' hr => hr.after h2
 refine wp_mono (wp_region_any hm (wpAny_of_J _ _ _ _ _ this)) ?_
 rintro e a' w' ⟨rfl, hr⟩
 exact hr

theorem G_drawT {id : Nat} {Q : Exit → Slots → List Res → Prop} (hm : P.follows .mixedOrders = true) (h : EAnyT P N ops s R ops.size (Array.replicate ops.size false) s R (Q .normal)) : GCode P N n (.region id ops true) s R Q := G_E (E_drawT hm h)

theorem T_done (hr : Region.ready .any ops listed = []) (h : K s R) : EAnyT P N ops s1 R1 fuel listed s R K :=
 fun G w1 W1 a w W _ _ hn hb hc hq => wpAnyJ_done hr ⟨rfl, hq a w ⟨s, R, W, h, hn, .refl ..⟩⟩ fuel

theorem T_light {i d : Nat} {o : Oper} {y : AV} (hi : ops[i]? = some o) (hw : want ops o s = some true) (hs : Region.noSelect ops = true) (hf : Region.free .any ops listed i = true) (hr : (Region.ready .any ops listed).contains i = true)
  (hnm : isMv o = false) (hd : o.dst = some d) (hN : d < N) (hv : Light P o s1 R1 y) (hl : listed.setIfInBounds i true = listed') (h : EAnyT P N ops ((d, y) :: s1) R1 fuel listed' ((d, y) :: s) R K) : EAnyT P N ops s1 R1 (fuel + 1) listed s R K := by
 subst hl
 intro G w1 W1 a w W hn1 ht hn hb hc hq
 obtain ⟨v, hy, hrun⟩ := hv N a w1 W1 hn1
 refine wpAnyJ_take hc hi hnm hs hf hr (fun c a' w' hp => by cases hp.1) (v := v) (.inl ⟨want_real hn hw, fun w' hb' => hrun w' hb'⟩) hb ?_
 rw [hd]
 exact h G w1 W1 _ w W (hn1.put hN hy) ht (hn.put hN (hy.next ht)) hb (hc.step (by simpa using hr)) hq

theorem T_old {i d : Nat} {o : Oper} {y : AV} (hi : ops[i]? = some o) (hw : want ops o s = some true) (hs : Region.noSelect ops = true) (hf : Region.free .any ops listed i = true) (hr : (Region.ready .any ops listed).contains i = true)
  (hd : o.dst = some d) (hN : d < N) (hv : Pure P o s1 R1 y) (hl : listed.setIfInBounds i true = listed') (h : EAnyT P N ops ((d, y) :: s1) R1 fuel listed' ((d, y) :: s) R K) : EAnyT P N ops s1 R1 (fuel + 1) listed s R K := by
 subst hl
 intro G w1 W1 a w W hn1 ht hn hb hc hq
 obtain ⟨v, hy, hrun⟩ := hv N a w1 W1 hn1
 refine wpAnyJ_take0 hc hi hs hf hr (fun c a' w' hp => by cases hp.1) (v := v) (.inl ⟨want_real hn hw, fun w' _ => hrun w'⟩) hb ?_
 rw [hd]
 exact h G w1 W1 _ w W (hn1.put hN hy) ht (hn.put hN (hy.next ht)) hb (hc.step (by simpa using hr)) hq

theorem T_pure {i d : Nat} {o : Oper} {y : AV} (hi : ops[i]? = some o) (hw : want ops o s = some true) (hs : Region.noSelect ops = true) (hf : Region.free .any ops listed i = true) (hr : (Region.ready .any ops listed).contains i = true)
  (hd : o.dst = some d) (hN : d < N) (hv : Pure P o s R y) (hl : listed.setIfInBounds i true = listed') (h : EAnyT P N ops ((d, back1 y) :: s1) R1 fuel listed' ((d, y) :: s) R K) : EAnyT P N ops s1 R1 (fuel + 1) listed s R K := by
 subst hl
 intro G w1 W1 a w W hn1 ht hn hb hc hq
 obtain ⟨v, hy, hrun⟩ := hv N a w W hn
 refine wpAnyJ_take0 hc hi hs hf hr (fun c a' w' hp => by cases hp.1) (v := v) (.inl ⟨want_real hn hw, fun w' _ => hrun w'⟩) hb ?_
 rw [hd]
 exact h G w1 W1 _ w W (hn1.put hN (back1_rel hy)) ht (hn.put hN hy) hb (hc.step (by simpa using hr)) hq

theorem T_skip {i : Nat} {o : Oper} (hi : ops[i]? = some o) (hw : want ops o s = some false) (hs : Region.noSelect ops = true) (hf : Region.free .any ops listed i = true) (hr : (Region.ready .any ops listed).contains i = true)
  (hd : ∀ d, o.dst = some d → d < N) (hl : listed.setIfInBounds i true = listed') (h : EAnyT P N ops (fill s1 o.dst) R1 fuel listed' (fill s o.dst) R K) : EAnyT P N ops s1 R1 (fuel + 1) listed s R K := by
 subst hl
 intro G w1 W1 a w W hn1 ht hn hb hc hq
 refine wpAnyJ_take0 hc hi hs hf hr (fun c a' w' hp => by cases hp.1) (v := undef) (.inr ⟨want_real hn hw, rfl⟩) hb ?_
 refine h G w1 W1 _ w W ?_ ht ?_ hb (hc.step (by simpa using hr)) hq
 ·cases hdd : o.dst with
  | none => exact hn1
  | some d => exact hn1.put (hd d hdd) (AVR.undef ..)
 ·cases hdd : o.dst with
  | none => exact hn
  | some d => exact hn.put (hd d hdd) (AVR.undef ..)

theorem T_skip1 {i d : Nat} {o : Oper} (hi : ops[i]? = some o) (hw : want ops o s = some false) (hs : Region.noSelect ops = true) (hf : Region.free .any ops listed i = true) (hr : (Region.ready .any ops listed).contains i = true)
  (hd : o.dst = some d) (hN : d < N) (hl : listed.setIfInBounds i true = listed') (h : EAnyT P N ops ((d, .tup []) :: s1) R1 fuel listed' ((d, .tup []) :: s) R K) : EAnyT P N ops s1 R1 (fuel + 1) listed s R K :=
 T_skip hi hw hs hf hr (fun d' hd' => by rw [hd] at hd'; cases hd'; exact hN) hl (by rw [hd]; exact h)
theorem EOps_skip1 {i d : Nat} {rest : List Nat} {o : Oper} (ho : ops[i]? = some o) (hw : want ops o s = some false) (hd : o.dst = some d) (hN : d < N) (h : EOps P N ops rest ((d, .tup []) :: s) R K) : EOps P N ops (i :: rest) s R K :=
 EOps_skip ho hw (fun d' hd' => by rw [hd] at hd'; cases hd'; exact hN) (by rw [hd]; exact h)

theorem T_heavy {i d : Nat} {o : Oper} (hi : ops[i]? = some o) (hw : want ops o s = some true) (hr : Region.ready .any ops listed = [i]) (hd : o.dst = some d) (hN : d < N) (hl : listed.setIfInBounds i true = listed')
  (h : HeavyV P o s R fun y R' => EAnyT P N ops ((d, back1 y) :: s1) R1 fuel listed' ((d, y) :: s) R' K) : EAnyT P N ops s1 R1 (fuel + 1) listed s R K := by
 subst hl
 intro G w1 W1 a w W hn1 ht hn hb hc hq
 refine ⟨fun h0 => (by rw [hr] at h0; cases h0), fun j hj => ?_⟩
 have hc' := hc.step hj
 rw [hr] at hj
 obtain rfl : j = i := by simpa using hj
 unfold wpOp
 simp only [hi, want_real hn hw, if_true]
 refine .inl (Oper.wp_mono (fun a' w' hh => ?_) (h N _ a w W hn))
 obtain ⟨h1, y, R', W', v, h2, rfl, h3, h4, h5⟩ := hh
 have hb' : Below w1.heap.size w1 w' := hb.trans (h1.mono hb.size)
 rw [hd]
 exact .inl ⟨hb', h2 G w1 W1 _ w' W' (hn1.put hN (back1_rel h3)) (ht.trans h4) ((hn.next h4 h5).put hN h3) hb' hc' fun a'' w'' hr' => hq a'' w'' (hr'.after h4)⟩

/-- Number i, which may come up with others, comes up. -/
def TStep (P : Program) (N : Nat) (ops : Array Oper) (i : Nat) (s1 : Slots) (R1 : List Res) (fuel : Nat) (listed : Array Bool) (s : Slots) (R : List Res) (K : Slots → List Res → Prop) : Prop :=
 ∀ (G : Act → World → Prop) (w1 : World) (W1 : Wit) a w W, Now N s1 R1 a w1 W1 → Trans w1 W1 R1 w W R → Now N s R a w W → Below w1.heap.size w1 w → Closed .any ops listed → i ∈ Region.ready .any ops listed → (∀ a' w', Reach N w W R K a' w' → G a' w') →
  wpOp P ops (fun ex a' w' => ex = .normal ∧ G a' w') i (fun a' w' => (Below w1.heap.size w1 w' ∧ wpAnyJ P .any ops (fun ex a' w' => ex = .normal ∧ G a' w') fuel (fun w' => Below w1.heap.size w1 w') (listed.setIfInBounds i true) a' w') ∨ (Dom .any ops i ∧ ∃ S' : World → Prop, S' w' ∧ wpAnyJ P .any ops (fun ex a' w' => ex = .normal ∧ G a' w') fuel S' (listed.setIfInBounds i true) a' w')) a w

theorem S_heavy {i d : Nat} {o : Oper} (hi : ops[i]? = some o) (hw : want ops o s = some true) (hd : o.dst = some d) (hN : d < N) (hl : listed.setIfInBounds i true = listed')
  (h : HeavyV P o s R fun y R' => EAnyT P N ops ((d, back1 y) :: s1) R1 fuel listed' ((d, y) :: s) R' K) : TStep P N ops i s1 R1 fuel listed s R K := by
 subst hl
 intro G w1 W1 a w W hn1 ht hn hb hc hj hq
 have hc' := hc.step hj
 unfold wpOp
 simp only [hi, want_real hn hw, if_true]
 refine .inl (Oper.wp_mono (fun a' w' hh => ?_) (h N _ a w W hn))
 obtain ⟨h1, y, R', W', v, h2, rfl, h3, h4, h5⟩ := hh
 have hb' : Below w1.heap.size w1 w' := hb.trans (h1.mono hb.size)
 rw [hd]
 exact .inl ⟨hb', h2 G w1 W1 _ w' W' (hn1.put hN (back1_rel h3)) (ht.trans h4) ((hn.next h4 h5).put hN h3) hb' hc' fun a'' w'' hr' => hq a'' w'' (hr'.after h4)⟩

theorem T_two {i j : Nat} (hr : Region.ready .any ops listed = [i, j]) (h1 : TStep P N ops i s1 R1 fuel listed s R K) (h2 : TStep P N ops j s1 R1 fuel listed s R K) : EAnyT P N ops s1 R1 (fuel + 1) listed s R K := by
 intro G w1 W1 a w W hn1 ht hn hb hc hq
 refine ⟨fun h0 => (by rw [hr] at h0; cases h0), fun k hk => ?_⟩
 have hk' := hk
 rw [hr] at hk'
 rcases List.mem_cons.1 hk' with rfl | hk'
 ·exact h1 G w1 W1 a w W hn1 ht hn hb hc hk hq
 ·obtain rfl : k = j := by simpa using hk'
  exact h2 G w1 W1 a w W hn1 ht hn hb hc hk hq

theorem T_three {i j l : Nat} (hr : Region.ready .any ops listed = [i, j, l]) (h1 : TStep P N ops i s1 R1 fuel listed s R K) (h2 : TStep P N ops j s1 R1 fuel listed s R K) (h3 : TStep P N ops l s1 R1 fuel listed s R K) : EAnyT P N ops s1 R1 (fuel + 1) listed s R K := by
 intro G w1 W1 a w W hn1 ht hn hb hc hq
 refine ⟨fun h0 => (by rw [hr] at h0; cases h0), fun k hk => ?_⟩
 have hk' := hk
 rw [hr] at hk'
 rcases List.mem_cons.1 hk' with rfl | hk'
 ·exact h1 G w1 W1 a w W hn1 ht hn hb hc hk hq
 ·rcases List.mem_cons.1 hk' with rfl | hk'
  ·exact h2 G w1 W1 a w W hn1 ht hn hb hc hk hq
  ·obtain rfl : k = l := by simpa using hk'
   exact h3 G w1 W1 a w W hn1 ht hn hb hc hk hq

/-- An operation before or behind which all others have to come: whatever it turns, the region begins anew behind it. -/
theorem T_turn {i : Nat} {o : Oper} (hi : ops[i]? = some o) (hw : want ops o s = some true) (hr : Region.ready .any ops listed = [i]) (hd : domB .any ops i = true) (hl : listed.setIfInBounds i true = listed')
  (h : EOp P N o s R fun s' R' => EAnyT P N ops s' R' fuel listed' s' R' K) : EAnyT P N ops s1 R1 (fuel + 1) listed s R K := by
 subst hl
 intro G w1 W1 a w W hn1 ht hn hb hc hq
 refine ⟨fun h0 => (by rw [hr] at h0; cases h0), fun j hj => ?_⟩
 have hc' := hc.step hj
 rw [hr] at hj
 obtain rfl : j = i := by simpa using hj
 unfold wpOp
 simp only [hi, want_real hn hw, if_true]
 refine .inl (Oper.wp_mono (fun a' w' hh => ?_) (h _ a w W hn))
 obtain ⟨s', R', W', h2, h3, h4⟩ := hh
 exact .inr ⟨dom_of hd, fun w'' => Below w'.heap.size w' w'', Below.refl _ _, h2 G w' W' a' w' W' h3 (.refl ..) h3 (Below.refl _ _) hc' fun a'' w'' hr' => hq a'' w'' (hr'.after h4)⟩

theorem V_pcall {o : Oper} {x : Operand} {args : Array Operand} {ats : Array TypeId} {f : FuncId} {args' : List AV} {Q : AV → List Res → Prop} {KV : AV → List Res → Prop} (ho : o.op = .call { callee := .value x, args := args, argTypes := ats }) (hx : ev s x = .c (.fn f [])) (hf : callable P f = true)
  (h0 : EFn P f args' [] Q) (ha : (args.toList.map (ev s)).map (E.lend R) = args') (hq : ∀ r S, Q r S → r.own = true ∧ S.all Res.own = true)
  (hk : ∀ r S, Q r S → KV (r.sh R.length) (R ++ S.map (Res.sh R.length))) : HeavyV P o s R KV := by
 have h : EFn P f ((args.toList.map (ev s)).map (E.lend R)) [] Q := ha ▸ h0
 intro N Q' a w W hn
 have hv := hn.ev x
 rw [hx] at hv
 obtain ⟨xs, e, h1⟩ := AR.fn_inv hv
 obtain rfl : xs = [] := by cases h1; rfl
 unfold Oper.wp
 have hr : (execOp a.eval o).run P w = .ok (.enter f (args.map a.eval)) w := by
  simp only [execOp, ho, resolve, e, Deferred.ofValue, Sem.run_bind, Sem.run_pure, Result.andThen_ok, invoke]
  simpa using run_callFunc hf _ w
 rw [hr, Oper.upon_enter]
 have hav : AVs W R w (args.toList.map (ev s)) (args.toList.map a.eval) := by
  refine ⟨by simp, fun i y v hy hu => ?_⟩
  rw [List.getElem?_map] at hy hu
  cases hi : args.toList[i]? with
  | none => rw [hi] at hy; cases hy
  | some z =>
   rw [hi] at hy hu
   obtain rfl : ev s z = y := by simpa using hy
   obtain rfl : a.eval z = v := by simpa using hu
   exact hn.ev z
 have hc := EFn.frame h hq w W _ hav hn.sep
 have hh : (args.toList.map a.eval).toArray = args.map a.eval := by
  apply Array.ext'; simp
 rw [hh] at hc
 refine hc.mono ?_
 rintro e' w' ⟨r, S, W', k1, ⟨v, rfl, k2⟩, k3, k4, k5⟩
 exact ⟨k5, _, _, W', v, hk r S k1, rfl, k2, k4, k3⟩

theorem Now.bool {a : Act} {w : World} {W : Wit} (hn : Now N s R a w W) {d : Nat} {b : Bool} (hd : E.get s d = .c (.sc (.bool b))) (c : Bool) (hc : b = c) : Now N ((d, .c (.sc (.bool c))) :: s) R a w W := by
 subst hc
 refine ⟨hn.size, hn.defers, fun t => ?_, hn.sep⟩
 simp only [E.get]
 split
 ·rename_i e; subst e; rw [← hd]; exact hn.val d
 ·exact hn.val t

/-- A truth value is looked at. -/
theorem T_split (d : Nat) {b : Bool} (hd : E.get s d = .c (.sc (.bool b))) (hd1 : E.get s1 d = .c (.sc (.bool b))) (h1 : b = true → EAnyT P N ops ((d, .c (.sc (.bool true))) :: s1) R1 fuel listed ((d, .c (.sc (.bool true))) :: s) R K)
  (h2 : b = false → EAnyT P N ops ((d, .c (.sc (.bool false))) :: s1) R1 fuel listed ((d, .c (.sc (.bool false))) :: s) R K) : EAnyT P N ops s1 R1 fuel listed s R K := by
 intro G w1 W1 a w W hn1 ht hn hb hc hq
 cases hbb : b with
 | true => exact h1 hbb G w1 W1 a w W (hn1.bool hd1 true hbb) ht (hn.bool hd true hbb) hb hc hq
 | false => exact h2 hbb G w1 W1 a w W (hn1.bool hd1 false hbb) ht (hn.bool hd false hbb) hb hc hq

end
end Go.Proofs.YthnadkagchbhbaaGreat.E

namespace Go.Proofs.YthnadkagchbhbaaGreat.E
open Go Go.RowKit
set_option linter.unusedVariables false
set_option linter.unusedSimpArgs false

section
variable {P : Program} {N n : Nat} {s s1 : Slots} {R R1 : List Res} {ops : Array Oper} {rest : List Nat} {K : Slots → List Res → Prop} {fuel : Nat} {listed listed' : Array Bool} {i : Nat} {o : Oper}

/-! ### 1. Light operations -/
theorem l_add {t t' : Nat} {x y : Operand} {u v : Int} (ho : o.op = .binOp .add t x y t') (hx : ev s x = .c (.sc (.int .i64 u))) (hy : ev s y = .c (.sc (.int .i64 v))) (h : -9223372036854775808 ≤ u + v ∧ u + v ≤ 9223372036854775807 := by constructor <;> first | omega | (dsimp only; omega) | (simp [ints_len, pairs_len, quads_len, quints_len, bools_len]; omega)) : Pure P o s R (.c (.sc (.int .i64 (u + v)))) := L_add ho hx hy h
theorem l_sub {t t' : Nat} {x y : Operand} {u v : Int} (ho : o.op = .binOp .sub t x y t') (hx : ev s x = .c (.sc (.int .i64 u))) (hy : ev s y = .c (.sc (.int .i64 v))) (h : -9223372036854775808 ≤ u - v ∧ u - v ≤ 9223372036854775807 := by constructor <;> first | omega | (dsimp only; omega) | (simp [ints_len, pairs_len, quads_len, quints_len, bools_len]; omega)) : Pure P o s R (.c (.sc (.int .i64 (u - v)))) := L_sub ho hx hy h
theorem l_mul {t t' : Nat} {x y : Operand} {u v : Int} (ho : o.op = .binOp .mul t x y t') (hx : ev s x = .c (.sc (.int .i64 u))) (hy : ev s y = .c (.sc (.int .i64 v))) (h : -9223372036854775808 ≤ u * v ∧ u * v ≤ 9223372036854775807 := by constructor <;> first | omega | (dsimp only; omega) | (simp [ints_len, pairs_len, quads_len, quints_len, bools_len]; omega)) : Pure P o s R (.c (.sc (.int .i64 (u * v)))) := L_mul ho hx hy h
theorem l_field {t f k : Nat} {x : Operand} {y : AV} (ho : o.op = .fieldAddr t x f) (hk : fofs P t f = some k) (hp : ptrOk R (ev s x) = true := by first | rfl | exact ptrOk_of (by first | rfl | assumption) (by first | assumption | exact ints_len _ | exact pairs_len _ | exact quads_len _ | exact quints_len _ | exact bools_len _ | (simp [ints_len, bools_len, pairs_len, quads_len, quints_len, part_len, *]; done) | (simp [ints_len, bools_len, pairs_len, quads_len, quints_len]; omega) | rfl)) (hy : fav k (ev s x) = some y := by rfl) : Pure P o s R y := L_field ho hk hp hy
theorem i_ro {t e k : Nat} {b : Bool} {rows : List (List T)} {row : List T} {j : Int} (hs : isSlice P t = some e) (ht : tyIs P e = some (b, k)) (hj : 0 ≤ j := by omega) (hr : rows[j.toNat]? = some row := by first | (first | assumption | exact ints_at (by assumption) | exact bools_at (by assumption) | exact pairs_at (by assumption) | exact quads_at (by assumption) | exact quints_at (by assumption) | exact ints_at (part_at (by assumption)) | exact bools_at (part_at (by assumption)) | exact pairs_at (part_at (by assumption)) | exact quads_at (part_at (by assumption)) | exact quints_at (part_at (by assumption)) | exact List.getElem?_set_self (by omega) | rfl) | ((try simp only [Int.toNat_natCast, Nat.zero_add]); first | assumption | exact ints_at (by assumption) | exact bools_at (by assumption) | exact pairs_at (by assumption) | exact quads_at (by assumption) | exact quints_at (by assumption) | exact ints_at (part_at (by assumption)) | exact bools_at (part_at (by assumption)) | exact pairs_at (part_at (by assumption)) | exact quads_at (part_at (by assumption)) | exact quints_at (part_at (by assumption)) | exact List.getElem?_set_self (by omega) | rfl)) (hk : row.length = k := by rfl) : iav P R t (.c (.ro rows)) j = some (.c (.rp row)) := iav_ro hs ht hj hr hk
theorem i_sl {t e e' k i off len tot : Nat} {b : Bool} {rows : List (List T)} {j : Int} (hs : isSlice P t = some e) (ht : tyIs P e = some (b, k)) (hj : 0 ≤ j := by omega) (hR : R[i]? = some (.row e' k rows) := by first | rfl | assumption) (hl : rows.length = tot := by first | assumption | exact ints_len _ | exact pairs_len _ | exact quads_len _ | exact quints_len _ | exact bools_len _ | (simp [ints_len, bools_len, pairs_len, quads_len, quints_len, part_len, *]; done) | (simp [ints_len, bools_len, pairs_len, quads_len, quints_len]; omega) | rfl) (hjl : j.toNat < len := by first | omega | (simp [ints_len, bools_len, pairs_len, quads_len, quints_len]; omega)) : iav P R t (.c (.sl i off len tot)) j = some (.c (.ep i (off + j.toNat) 0 tot)) := iav_sl hs ht hj hR hl hjl
theorem d_bp {t n i off : Nat} {b : Bool} {cs : List AC} {y : AV} (ht : tyIs P t = some (b, n)) (hR : R[i]? = some (.box cs) := by first | rfl | assumption) (hy : mkv b n ((cs.drop off).take n) = some y := by rfl) : ldv P R t (.c (.bp i off)) = some y := ld_bp hR ht hy
theorem d_ep {t n i j off tot e k : Nat} {b : Bool} {rows : List (List T)} {row : List T} {y : AV} (ht : tyIs P t = some (b, n)) (hR : R[i]? = some (.row e k rows) := by first | rfl | assumption) (hl : rows.length = tot := by first | assumption | exact ints_len _ | exact pairs_len _ | exact quads_len _ | exact quints_len _ | exact bools_len _ | (simp [ints_len, bools_len, pairs_len, quads_len, quints_len, part_len, *]; done) | (simp [ints_len, bools_len, pairs_len, quads_len, quints_len]; omega) | rfl) (hr : rows[j]? = some row := by first | (first | assumption | exact ints_at (by assumption) | exact bools_at (by assumption) | exact pairs_at (by assumption) | exact quads_at (by assumption) | exact quints_at (by assumption) | exact ints_at (part_at (by assumption)) | exact bools_at (part_at (by assumption)) | exact pairs_at (part_at (by assumption)) | exact quads_at (part_at (by assumption)) | exact quints_at (part_at (by assumption)) | exact List.getElem?_set_self (by omega) | rfl) | ((try simp only [Int.toNat_natCast, Nat.zero_add]); first | assumption | exact ints_at (by assumption) | exact bools_at (by assumption) | exact pairs_at (by assumption) | exact quads_at (by assumption) | exact quints_at (by assumption) | exact ints_at (part_at (by assumption)) | exact bools_at (part_at (by assumption)) | exact pairs_at (part_at (by assumption)) | exact quads_at (part_at (by assumption)) | exact quints_at (part_at (by assumption)) | exact List.getElem?_set_self (by omega) | rfl)) (hy : mkv b n (((row.drop off).take n).map tco) = some y := by rfl) : ldv P R t (.c (.ep i j off tot)) = some y := ld_ep hR hl hr ht hy
theorem s_bp {t n i off : Nat} {b : Bool} {cs ys : List AC} (ht : tyIs P t = some (b, n)) (hR : R[i]? = some (.box cs) := by first | rfl | assumption) (hl : ys.length = n := by rfl) (ho : off + n ≤ cs.length := by exact Nat.le_of_ble_eq_true rfl) : stv P R t (.c (.bp i off)) ys = some (R.set i (.box (splice cs off ys))) := st_bp hR ht hl ho
theorem s_ep {t n i j off tot e k : Nat} {b : Bool} {rows : List (List T)} {row : List T} {ys : List AC} {xs : List Value} (ht : tyIs P t = some (b, n)) (hR : R[i]? = some (.row e k rows) := by first | rfl | assumption) (hl : rows.length = tot := by first | assumption | exact ints_len _ | exact pairs_len _ | exact quads_len _ | exact quints_len _ | exact bools_len _ | (simp [ints_len, bools_len, pairs_len, quads_len, quints_len, part_len, *]; done) | (simp [ints_len, bools_len, pairs_len, quads_len, quints_len]; omega) | rfl) (hr : rows[j]? = some row := by first | (first | assumption | exact ints_at (by assumption) | exact bools_at (by assumption) | exact pairs_at (by assumption) | exact quads_at (by assumption) | exact quints_at (by assumption) | exact ints_at (part_at (by assumption)) | exact bools_at (part_at (by assumption)) | exact pairs_at (part_at (by assumption)) | exact quads_at (part_at (by assumption)) | exact quints_at (part_at (by assumption)) | exact List.getElem?_set_self (by omega) | rfl) | ((try simp only [Int.toNat_natCast, Nat.zero_add]); first | assumption | exact ints_at (by assumption) | exact bools_at (by assumption) | exact pairs_at (by assumption) | exact quads_at (by assumption) | exact quints_at (by assumption) | exact ints_at (part_at (by assumption)) | exact bools_at (part_at (by assumption)) | exact pairs_at (part_at (by assumption)) | exact quads_at (part_at (by assumption)) | exact quints_at (part_at (by assumption)) | exact List.getElem?_set_self (by omega) | rfl)) (hx : ys.mapM act = some xs := by rfl) (hn : xs.length = n := by rfl) (ho : off + n ≤ k := by decide) (ha : ((row.drop off).take n).all isSc = true := by rfl) :
  stv P R t (.c (.ep i j off tot)) ys = some (R.set i (.row e k (rows.set j (splice row off (xs.map T.sc))))) := st_ep hR hl hr ht hx hn ho ha
theorem l_len {t e n : Nat} {x : Operand} (ho : o.op = .call { callee := .builtin .len, args := #[x], argTypes := #[t] }) (ht : isSlice P t = some e) (hx : lav (ev s x) = some n := by rfl) (hok : slOk R (ev s x) = true := by first | rfl | exact slOk_of (by first | rfl | assumption) (by first | assumption | exact ints_len _ | exact pairs_len _ | exact quads_len _ | exact quints_len _ | exact bools_len _ | (simp [ints_len, bools_len, pairs_len, quads_len, quints_len, part_len, *]; done) | (simp [ints_len, bools_len, pairs_len, quads_len, quints_len]; omega) | rfl)) : Pure P o s R (.c (.sc (.int .i64 n))) := L_len ho ht hx hok

/-! ### 2. An operation of a region -/
theorem x_pure {d : Nat} {y : AV} (ho : ops[i]? = some o) (hw : want ops o s = some true) (hd : o.dst = some d) (hv : Pure P o s R y) (h : EOps P N ops rest ((d, y) :: s) R K) (hN : d < N := by decide) : EOps P N ops (i :: rest) s R K := EOps_go ho hw (EOp_light hd hN hv.light h)
theorem x_light {d : Nat} {y : AV} (ho : ops[i]? = some o) (hw : want ops o s = some true) (hd : o.dst = some d) (hv : Light P o s R y) (h : EOps P N ops rest ((d, y) :: s) R K) (hN : d < N := by decide) : EOps P N ops (i :: rest) s R K := EOps_go ho hw (EOp_light hd hN hv h)
theorem x_skip {d : Nat} (ho : ops[i]? = some o) (hw : want ops o s = some false) (hd : o.dst = some d) (h : EOps P N ops rest ((d, .tup []) :: s) R K) (hN : d < N := by decide) : EOps P N ops (i :: rest) s R K := EOps_skip1 ho hw hd hN h
theorem x_alloc {d t : Nat} {zs : List AC} (ho' : ops[i]? = some o) (hw : want ops o s = some true) (ho : o.op = .alloc t) (hd : o.dst = some d) (hz : zav P t = some zs) (h : EOps P N ops rest ((d, .c (.bp R.length 0)) :: s) (R ++ [.box zs]) K) (hN : d < N := by decide) : EOps P N ops (i :: rest) s R K := EOps_go ho' hw (EOp_alloc ho hd hN hz h)
theorem x_box {d t : Nat} {x : Operand} {ys : List AC} (ho' : ops[i]? = some o) (hw : want ops o s = some true) (ho : o.op = .box t x) (hd : o.dst = some d) (hy : cellsOf (ev s x) = some ys) (h : EOps P N ops rest ((d, .c (.bp R.length 0)) :: s) (R ++ [.box ys]) K) (hN : d < N := by decide) : EOps P N ops (i :: rest) s R K := EOps_go ho' hw (EOp_box ho hd hN hy h)
theorem x_call {d : Nat} {x : Operand} {args : Array Operand} {ats : Array TypeId} {f : FuncId} {args' : List AV} {Q : AV → List Res → Prop} (ho' : ops[i]? = some o) (hw : want ops o s = some true) (ho : o.op = .call { callee := .value x, args := args, argTypes := ats }) (hd : o.dst = some d) (hx : ev s x = .c (.fn f [])) (hf : callable P f = true)
  (h : EFn P f args' [] Q) (hk : ∀ r S, Q r S → EOps P N ops rest ((d, r.sh R.length) :: s) (R ++ S.map (Res.sh R.length)) K) (ha : (args.toList.map (ev s)).map (E.lend R) = args' := by repeat' (first | (refine lend_whole rfl ?_; first | assumption | exact ints_len _ | exact pairs_len _ | exact quads_len _ | exact quints_len _ | exact bools_len _ | (simp [ints_len, bools_len, pairs_len, quads_len, quints_len, part_len, *]; done) | (simp [ints_len, bools_len, pairs_len, quads_len, quints_len]; omega) | rfl) | refine agg_eq ?_ | (refine lendC_whole rfl ?_; first | assumption | exact ints_len _ | exact pairs_len _ | exact quads_len _ | exact quints_len _ | exact bools_len _ | (simp [ints_len, bools_len, pairs_len, quads_len, quints_len, part_len, *]; done) | (simp [ints_len, bools_len, pairs_len, quads_len, quints_len]; omega) | rfl) | refine cons_eq ?_ ?_ | rfl | (simp [E.lend, E.lendC, E.ev, E.cv, E.get, E.fill', E.fill, AV.sh, AC.sh, Res.sh, ints_len, *]; done))) (hq : ∀ r S, Q r S → r.own = true ∧ S.all Res.own = true := by rintro r S ⟨rfl, rfl⟩; exact ⟨rfl, rfl⟩) (hN : d < N := by decide) : EOps P N ops (i :: rest) s R K := EOps_go ho' hw (Heavy.op (H_pcall1 ho hd hN hx hf h ha hq hk))
theorem x_frame {d : Nat} {x : Operand} {args : Array Operand} {ats : Array TypeId} {f : FuncId} {args' : List AV} {Rs : List Res} {Q : AV → List Res → Prop} (σ : List Nat) (ho' : ops[i]? = some o) (hw : want ops o s = some true) (ho : o.op = .call { callee := .value x, args := args, argTypes := ats }) (hd : o.dst = some d) (hx : ev s x = .c (.fn f [])) (hf : callable P f = true)
  (hR : reR 0 σ R = Rs) (h : EFn P f args' Rs Q) (hk : ∀ r R', (∃ r0 S, Q r0 S ∧ r = r0.un R.length σ ∧ R' = back σ R S) → EOps P N ops rest ((d, r) :: s) R' K) (hσ : okσ 0 R σ = true := by rfl) (ha : (args.toList.map (ev s)).map (AV.sub R σ) = args' := by repeat' (first | (refine sub_whole rfl ?_; first | assumption | exact ints_len _ | exact pairs_len _ | exact quads_len _ | exact quints_len _ | exact bools_len _ | (simp [ints_len, bools_len, pairs_len, quads_len, quints_len, part_len, *]; done) | (simp [ints_len, bools_len, pairs_len, quads_len, quints_len]; omega) | rfl) | refine agg_eq ?_ | (refine subC_whole rfl ?_; first | assumption | exact ints_len _ | exact pairs_len _ | exact quads_len _ | exact quints_len _ | exact bools_len _ | (simp [ints_len, bools_len, pairs_len, quads_len, quints_len, part_len, *]; done) | (simp [ints_len, bools_len, pairs_len, quads_len, quints_len]; omega) | rfl) | refine cons_eq ?_ ?_ | rfl | (simp [E.lend, E.lendC, E.ev, E.cv, E.get, E.fill', E.fill, AV.sh, AC.sh, Res.sh, ints_len, *]; done))) (hq : ∀ r S, Q r S → r.own = true ∧ S.all Res.own = true := by rintro r S ⟨rfl, rfl⟩; exact ⟨rfl, rfl⟩) (hN : d < N := by decide) : EOps P N ops (i :: rest) s R K := EOps_go ho' hw (EOp_call1 ho hd hN hx hf (EFn.frame' σ hσ hR ha h hq) (by simp) hk)

/-! ### 3. An operation of a region that draws its order -/
theorem t_old (i : Nat) {d : Nat} {y : AV} (hi : ops[i]? = some o) (hw : want ops o s = some true) (hd : o.dst = some d) (hv : Pure P o s1 R1 y) (h : EAnyT P N ops ((d, y) :: s1) R1 fuel listed' ((d, y) :: s) R K) (hs : Region.noSelect ops = true := by kernel_rfl) (hf : Region.free .any ops listed i = true := by kernel_rfl) (hr : (Region.ready .any ops listed).contains i = true := by kernel_rfl) (hN : d < N := by decide) (hl : listed.setIfInBounds i true = listed' := by rfl) : EAnyT P N ops s1 R1 (fuel + 1) listed s R K := T_old hi hw hs hf hr hd hN hv hl h
theorem t_light (i : Nat) {d : Nat} {y : AV} (hi : ops[i]? = some o) (hw : want ops o s = some true) (hd : o.dst = some d) (hv : Light P o s1 R1 y) (h : EAnyT P N ops ((d, y) :: s1) R1 fuel listed' ((d, y) :: s) R K) (hnm : isMv o = false := by rfl) (hs : Region.noSelect ops = true := by kernel_rfl) (hf : Region.free .any ops listed i = true := by kernel_rfl) (hr : (Region.ready .any ops listed).contains i = true := by kernel_rfl) (hN : d < N := by decide) (hl : listed.setIfInBounds i true = listed' := by rfl) : EAnyT P N ops s1 R1 (fuel + 1) listed s R K := T_light hi hw hs hf hr hnm hd hN hv hl h
theorem t_pure (i : Nat) {d : Nat} {y : AV} (hi : ops[i]? = some o) (hw : want ops o s = some true) (hd : o.dst = some d) (hv : Pure P o s R y) (h : EAnyT P N ops ((d, back1 y) :: s1) R1 fuel listed' ((d, y) :: s) R K) (hs : Region.noSelect ops = true := by kernel_rfl) (hf : Region.free .any ops listed i = true := by kernel_rfl) (hr : (Region.ready .any ops listed).contains i = true := by kernel_rfl) (hN : d < N := by decide) (hl : listed.setIfInBounds i true = listed' := by rfl) : EAnyT P N ops s1 R1 (fuel + 1) listed s R K := T_pure hi hw hs hf hr hd hN hv hl h
theorem t_skip (i : Nat) {d : Nat} (hi : ops[i]? = some o) (hw : want ops o s = some false) (hd : o.dst = some d) (h : EAnyT P N ops ((d, .tup []) :: s1) R1 fuel listed' ((d, .tup []) :: s) R K) (hs : Region.noSelect ops = true := by kernel_rfl) (hf : Region.free .any ops listed i = true := by kernel_rfl) (hr : (Region.ready .any ops listed).contains i = true := by kernel_rfl) (hN : d < N := by decide) (hl : listed.setIfInBounds i true = listed' := by rfl) : EAnyT P N ops s1 R1 (fuel + 1) listed s R K := T_skip1 hi hw hs hf hr hd hN hl h
theorem t_turn (i : Nat) (hi : ops[i]? = some o) (hw : want ops o s = some true) (h : EOp P N o s R fun s' R' => EAnyT P N ops s' R' fuel listed' s' R' K) (hr : Region.ready .any ops listed = [i] := by kernel_rfl) (hd : domB .any ops i = true := by kernel_rfl) (hl : listed.setIfInBounds i true = listed' := by rfl) : EAnyT P N ops s1 R1 (fuel + 1) listed s R K := T_turn hi hw hr hd hl h
theorem t_heavy (i : Nat) {d : Nat} (hi : ops[i]? = some o) (hw : want ops o s = some true) (hd : o.dst = some d) (h : HeavyV P o s R fun y R' => EAnyT P N ops ((d, back1 y) :: s1) R1 fuel listed' ((d, y) :: s) R' K) (hr : Region.ready .any ops listed = [i] := by kernel_rfl) (hl : listed.setIfInBounds i true = listed' := by rfl) (hN : d < N := by decide) : EAnyT P N ops s1 R1 (fuel + 1) listed s R K := T_heavy hi hw hr hd hN hl h
theorem t_call (i : Nat) {d : Nat} {x : Operand} {args : Array Operand} {ats : Array TypeId} {f : FuncId} {args' : List AV} {Q : AV → List Res → Prop} {o : Oper} (hi : ops[i]? = some o) (hw : want ops o s = some true) (ho : o.op = .call { callee := .value x, args := args, argTypes := ats }) (hd : o.dst = some d) (hx : ev s x = .c (.fn f [])) (hf : callable P f = true)
  (h : EFn P f args' [] Q) (hk : ∀ r S, Q r S → EAnyT P N ops ((d, back1 (r.sh R.length)) :: s1) R1 fuel listed' ((d, r.sh R.length) :: s) (R ++ S.map (Res.sh R.length)) K) (ha : (args.toList.map (ev s)).map (E.lend R) = args' := by repeat' (first | (refine lend_whole rfl ?_; first | assumption | exact ints_len _ | exact pairs_len _ | exact quads_len _ | exact quints_len _ | exact bools_len _ | (simp [ints_len, bools_len, pairs_len, quads_len, quints_len, part_len, *]; done) | (simp [ints_len, bools_len, pairs_len, quads_len, quints_len]; omega) | rfl) | refine agg_eq ?_ | (refine lendC_whole rfl ?_; first | assumption | exact ints_len _ | exact pairs_len _ | exact quads_len _ | exact quints_len _ | exact bools_len _ | (simp [ints_len, bools_len, pairs_len, quads_len, quints_len, part_len, *]; done) | (simp [ints_len, bools_len, pairs_len, quads_len, quints_len]; omega) | rfl) | refine cons_eq ?_ ?_ | rfl | (simp [E.lend, E.lendC, E.ev, E.cv, E.get, E.fill', E.fill, AV.sh, AC.sh, Res.sh, ints_len, *]; done))) (hq : ∀ r S, Q r S → r.own = true ∧ S.all Res.own = true := by rintro r S ⟨rfl, rfl⟩; exact ⟨rfl, rfl⟩) (hN : d < N := by decide) (hr : Region.ready .any ops listed = [i] := by kernel_rfl) (hl : listed.setIfInBounds i true = listed' := by rfl) : EAnyT P N ops s1 R1 (fuel + 1) listed s R K := T_heavy hi hw hr hd hN hl (V_pcall ho hx hf h ha hq hk)
theorem s_call (i : Nat) {d : Nat} {x : Operand} {args : Array Operand} {ats : Array TypeId} {f : FuncId} {args' : List AV} {Q : AV → List Res → Prop} {o : Oper} (hi : ops[i]? = some o) (hw : want ops o s = some true) (ho : o.op = .call { callee := .value x, args := args, argTypes := ats }) (hd : o.dst = some d) (hx : ev s x = .c (.fn f [])) (hf : callable P f = true)
  (h : EFn P f args' [] Q) (hk : ∀ r S, Q r S → EAnyT P N ops ((d, back1 (r.sh R.length)) :: s1) R1 fuel listed' ((d, r.sh R.length) :: s) (R ++ S.map (Res.sh R.length)) K) (ha : (args.toList.map (ev s)).map (E.lend R) = args' := by repeat' (first | (refine lend_whole rfl ?_; first | assumption | exact ints_len _ | exact pairs_len _ | exact quads_len _ | exact quints_len _ | exact bools_len _ | (simp [ints_len, bools_len, pairs_len, quads_len, quints_len, part_len, *]; done) | (simp [ints_len, bools_len, pairs_len, quads_len, quints_len]; omega) | rfl) | refine agg_eq ?_ | (refine lendC_whole rfl ?_; first | assumption | exact ints_len _ | exact pairs_len _ | exact quads_len _ | exact quints_len _ | exact bools_len _ | (simp [ints_len, bools_len, pairs_len, quads_len, quints_len, part_len, *]; done) | (simp [ints_len, bools_len, pairs_len, quads_len, quints_len]; omega) | rfl) | refine cons_eq ?_ ?_ | rfl | (simp [E.lend, E.lendC, E.ev, E.cv, E.get, E.fill', E.fill, AV.sh, AC.sh, Res.sh, ints_len, *]; done))) (hq : ∀ r S, Q r S → r.own = true ∧ S.all Res.own = true := by rintro r S ⟨rfl, rfl⟩; exact ⟨rfl, rfl⟩) (hN : d < N := by decide) (hl : listed.setIfInBounds i true = listed' := by rfl) : TStep P N ops i s1 R1 fuel listed s R K := S_heavy hi hw hd hN hl (V_pcall ho hx hf h ha hq hk)
theorem s_heavy (i : Nat) {d : Nat} (hi : ops[i]? = some o) (hw : want ops o s = some true) (hd : o.dst = some d) (h : HeavyV P o s R fun y R' => EAnyT P N ops ((d, back1 y) :: s1) R1 fuel listed' ((d, y) :: s) R' K) (hl : listed.setIfInBounds i true = listed' := by rfl) (hN : d < N := by decide) : TStep P N ops i s1 R1 fuel listed s R K := S_heavy hi hw hd hN hl h
theorem t_two (i j : Nat) (h1 : TStep P N ops i s1 R1 fuel listed s R K) (h2 : TStep P N ops j s1 R1 fuel listed s R K) (hr : Region.ready .any ops listed = [i, j] := by kernel_rfl) : EAnyT P N ops s1 R1 (fuel + 1) listed s R K := T_two hr h1 h2
theorem t_three (i j l : Nat) (h1 : TStep P N ops i s1 R1 fuel listed s R K) (h2 : TStep P N ops j s1 R1 fuel listed s R K) (h3 : TStep P N ops l s1 R1 fuel listed s R K) (hr : Region.ready .any ops listed = [i, j, l] := by kernel_rfl) : EAnyT P N ops s1 R1 (fuel + 1) listed s R K := T_three hr h1 h2 h3
end

/-! ### 4. Control -/
section
variable {P : Program} {N n : Nat} {s : Slots} {R : List Res} {Q : Exit → Slots → List Res → Prop}
theorem e_tidy {c : Code} (keep : List Nat) {base : Slots} {R' : List Res} (h : ECode P N c base R' Q) (hb : keepOf s keep = base := by simp only [E.keepOf, E.get, E.ev, E.cv, E.fill', E.fill, E.slotsOf, Res.sh, AC.sh, AC.sh.shs, AV.sh, E.splice, List.map_cons, List.map_nil, List.cons_append, List.nil_append, List.append_nil, List.length_cons, List.length_nil, List.take_zero, List.drop_zero, List.take_succ_cons, List.drop_succ_cons, List.drop_nil, List.take_nil, List.set_cons_zero, List.set_cons_succ, Nat.zero_add, Nat.add_zero, Nat.reduceAdd, Nat.reduceSub, reduceIte, Nat.reduceEqDiff, E.back, E.backR, E.ix, Res.un, AC.un, AC.un.uns, AV.un, E.un, Option.map_some, Option.map_none, Option.getD_some, List.getElem?_cons_zero, List.getElem?_cons_succ, List.getElem?_nil]; rfl) (hR : R = R' := by (try simp only [E.keepOf, E.get, E.ev, E.cv, E.fill', E.fill, E.slotsOf, Res.sh, AC.sh, AC.sh.shs, AV.sh, E.splice, List.map_cons, List.map_nil, List.cons_append, List.nil_append, List.append_nil, List.length_cons, List.length_nil, List.take_zero, List.drop_zero, List.take_succ_cons, List.drop_succ_cons, List.drop_nil, List.take_nil, List.set_cons_zero, List.set_cons_succ, Nat.zero_add, Nat.add_zero, Nat.reduceAdd, Nat.reduceSub, reduceIte, Nat.reduceEqDiff, E.back, E.backR, E.ix, Res.un, AC.un, AC.un.uns, AV.un, E.un, Option.map_some, Option.map_none, Option.getD_some, List.getElem?_cons_zero, List.getElem?_cons_succ, List.getElem?_nil]); rfl) : ECode P N c s R Q := E_tidy keep hb hR h
theorem e_for {α : Type} {c : Code} (keep : List Nat) (mods : α → Slots) (Rf : α → List Res) (I : α → Prop) (m : α → Nat) (x0 : α) {base : Slots} (h0 : I x0) (hR : R = Rf x0) (h1 : chk s (mods x0))
  (round : ∀ x, I x → ECode P N c (mods x ++ base) (Rf x) (EThen (fun s' R' => ∃ y, m y < m x ∧ I y ∧ R' = Rf y ∧ chk s' (mods y) ∧ chk s' base) Q)) (hb : keepOf s keep = base := by simp only [E.keepOf, E.get, E.ev, E.cv, E.fill', E.fill, E.slotsOf, Res.sh, AC.sh, AC.sh.shs, AV.sh, E.splice, List.map_cons, List.map_nil, List.cons_append, List.nil_append, List.append_nil, List.length_cons, List.length_nil, List.take_zero, List.drop_zero, List.take_succ_cons, List.drop_succ_cons, List.drop_nil, List.take_nil, List.set_cons_zero, List.set_cons_succ, Nat.zero_add, Nat.add_zero, Nat.reduceAdd, Nat.reduceSub, reduceIte, Nat.reduceEqDiff, E.back, E.backR, E.ix, Res.un, AC.un, AC.un.uns, AV.un, E.un, Option.map_some, Option.map_none, Option.getD_some, List.getElem?_cons_zero, List.getElem?_cons_succ, List.getElem?_nil]; rfl) : ECode P N (.loop c) s R Q := E_for keep mods Rf I m x0 hb h0 hR h1 round
theorem g_tidy {c : Code} (keep : List Nat) {base : Slots} {R' : List Res} (h : GCode P N n c base R' Q) (hb : keepOf s keep = base := by simp only [E.keepOf, E.get, E.ev, E.cv, E.fill', E.fill, E.slotsOf, Res.sh, AC.sh, AC.sh.shs, AV.sh, E.splice, List.map_cons, List.map_nil, List.cons_append, List.nil_append, List.append_nil, List.length_cons, List.length_nil, List.take_zero, List.drop_zero, List.take_succ_cons, List.drop_succ_cons, List.drop_nil, List.take_nil, List.set_cons_zero, List.set_cons_succ, Nat.zero_add, Nat.add_zero, Nat.reduceAdd, Nat.reduceSub, reduceIte, Nat.reduceEqDiff, E.back, E.backR, E.ix, Res.un, AC.un, AC.un.uns, AV.un, E.un, Option.map_some, Option.map_none, Option.getD_some, List.getElem?_cons_zero, List.getElem?_cons_succ, List.getElem?_nil]; rfl) (hR : R = R' := by (try simp only [E.keepOf, E.get, E.ev, E.cv, E.fill', E.fill, E.slotsOf, Res.sh, AC.sh, AC.sh.shs, AV.sh, E.splice, List.map_cons, List.map_nil, List.cons_append, List.nil_append, List.append_nil, List.length_cons, List.length_nil, List.take_zero, List.drop_zero, List.take_succ_cons, List.drop_succ_cons, List.drop_nil, List.take_nil, List.set_cons_zero, List.set_cons_succ, Nat.zero_add, Nat.add_zero, Nat.reduceAdd, Nat.reduceSub, reduceIte, Nat.reduceEqDiff, E.back, E.backR, E.ix, Res.un, AC.un, AC.un.uns, AV.un, E.un, Option.map_some, Option.map_none, Option.getD_some, List.getElem?_cons_zero, List.getElem?_cons_succ, List.getElem?_nil]); rfl) : GCode P N n c s R Q := G_tidy keep hb hR h
theorem g_for {α : Type} {c : Code} (keep : List Nat) (mods : α → Slots) (Rf : α → List Res) (I : α → Prop) (m : α → Nat) (x0 : α) {base : Slots} (h0 : I x0) (hR : R = Rf x0) (h1 : chk s (mods x0))
  (round : ∀ x, I x → GCode P N n c (mods x ++ base) (Rf x) (EThen (fun s' R' => ∃ y, m y < m x ∧ I y ∧ R' = Rf y ∧ chk s' (mods y) ∧ chk s' base) Q)) (hb : keepOf s keep = base := by simp only [E.keepOf, E.get, E.ev, E.cv, E.fill', E.fill, E.slotsOf, Res.sh, AC.sh, AC.sh.shs, AV.sh, E.splice, List.map_cons, List.map_nil, List.cons_append, List.nil_append, List.append_nil, List.length_cons, List.length_nil, List.take_zero, List.drop_zero, List.take_succ_cons, List.drop_succ_cons, List.drop_nil, List.take_nil, List.set_cons_zero, List.set_cons_succ, Nat.zero_add, Nat.add_zero, Nat.reduceAdd, Nat.reduceSub, reduceIte, Nat.reduceEqDiff, E.back, E.backR, E.ix, Res.un, AC.un, AC.un.uns, AV.un, E.un, Option.map_some, Option.map_none, Option.getD_some, List.getElem?_cons_zero, List.getElem?_cons_succ, List.getElem?_nil]; rfl) : GCode P N n (.loop c) s R Q := G_for keep mods Rf I m x0 hb h0 hR h1 round
theorem g_forD {α : Type} {c : Code} (keep : List Nat) (mods : α → Slots) (Rf : α → List Res) (I : α → Prop) (m : α → Nat) (x0 : α) {base : Slots} (h0 : I x0) (hR : R = Rf x0) (h1 : chk s (mods x0))
  (round : ∀ x, I x → GCode P N n c (mods x ++ base) (Rf x) (EThen (fun s' R' => ∃ σ, okσ n R' σ = true ∧ ∃ y, m y < m x ∧ I y ∧ reR n σ R' = Rf y ∧ chk (renS n σ s') (mods y) ∧ chk (renS n σ s') base) Q)) (hb : keepOf s keep = base := by simp only [E.keepOf, E.get, E.ev, E.cv, E.fill', E.fill, E.slotsOf, Res.sh, AC.sh, AC.sh.shs, AV.sh, E.splice, List.map_cons, List.map_nil, List.cons_append, List.nil_append, List.append_nil, List.length_cons, List.length_nil, List.take_zero, List.drop_zero, List.take_succ_cons, List.drop_succ_cons, List.drop_nil, List.take_nil, List.set_cons_zero, List.set_cons_succ, Nat.zero_add, Nat.add_zero, Nat.reduceAdd, Nat.reduceSub, reduceIte, Nat.reduceEqDiff, E.back, E.backR, E.ix, Res.un, AC.un, AC.un.uns, AV.un, E.un, Option.map_some, Option.map_none, Option.getD_some, List.getElem?_cons_zero, List.getElem?_cons_succ, List.getElem?_nil]; rfl) : GCode P N n (.loop c) s R Q := G_forD keep mods Rf I m x0 hb h0 hR h1 round
end
section
variable {P : Program} {N i d : Nat} {s : Slots} {R : List Res} {ops : Array Oper} {rest : List Nat} {K : Slots → List Res → Prop} {o : Oper}
theorem xmv {x : Operand} (h : EOps P N ops rest ((d, ev s x) :: s) R K) (hi : ops[i]? = some o := by rfl) (hw : want ops o s = some true := by rfl) (hd : o.dst = some d := by rfl) (ho : o.op = .move x := by rfl) (hN : d < N := by decide) : EOps P N ops (i :: rest) s R K := x_pure hi hw hd (L_move ho) h hN
theorem xas {x : Operand} (h : EOps P N ops rest ((d, ev s x) :: s) R K) (hi : ops[i]? = some o := by rfl) (hw : want ops o s = some true := by rfl) (hd : o.dst = some d := by rfl) (ho : o.op = .assign x := by rfl) (hN : d < N := by decide) : EOps P N ops (i :: rest) s R K := x_pure hi hw hd (L_assign ho) h hN
end

end Go.Proofs.YthnadkagchbhbaaGreat.E
