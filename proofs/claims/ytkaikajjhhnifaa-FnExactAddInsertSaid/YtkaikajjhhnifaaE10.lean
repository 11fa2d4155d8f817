/- Words of the session's own, tenth part: the forms in which the walk asks. -/
import Derived.Test.YtkaikajjhhnifaaE9
namespace Go.Proofs.Ytkaikajjhhnifaa.E
open Go Go.RowKit
set_option linter.unusedVariables false
set_option linter.unusedSimpArgs false

def isArr (P : Program) (t : TypeId) : Option (Nat × TypeId) := match P.underlying t with | some (.array n e) => some (n, e) | _ => none

/-! ### 1. Numbers -/
theorem wrap_id {z : Int} (h : -9223372036854775808 ≤ z) (h' : z ≤ 9223372036854775807) : IntKind.i64.wrap z = z := by
  unfold IntKind.wrap; simp [IntKind.bits, IntKind.signed]; omega

section
variable {P : Program} {N : Nat} {s : Slots} {R : List Res} {K : Slots → List Res → Prop}

theorem L_add {o : Oper} {t t' : Nat} {x y : Operand} {u v : Int} (ho : o.op = .binOp .add t x y t') (hx : ev s x = .c (.sc (.int .i64 u))) (hy : ev s y = .c (.sc (.int .i64 v))) (h : -9223372036854775808 ≤ u + v ∧ u + v ≤ 9223372036854775807) : Pure P o s R (.c (.sc (.int .i64 (u + v)))) :=
  L_bin ho hx hy (by simp only [binV]; rw [wrap_id h.1 h.2])
theorem L_sub {o : Oper} {t t' : Nat} {x y : Operand} {u v : Int} (ho : o.op = .binOp .sub t x y t') (hx : ev s x = .c (.sc (.int .i64 u))) (hy : ev s y = .c (.sc (.int .i64 v))) (h : -9223372036854775808 ≤ u - v ∧ u - v ≤ 9223372036854775807) : Pure P o s R (.c (.sc (.int .i64 (u - v)))) :=
  L_bin ho hx hy (by simp only [binV]; rw [wrap_id h.1 h.2])
theorem L_mul {o : Oper} {t t' : Nat} {x y : Operand} {u v : Int} (ho : o.op = .binOp .mul t x y t') (hx : ev s x = .c (.sc (.int .i64 u))) (hy : ev s y = .c (.sc (.int .i64 v))) (h : -9223372036854775808 ≤ u * v ∧ u * v ≤ 9223372036854775807) : Pure P o s R (.c (.sc (.int .i64 (u * v)))) :=
  L_bin ho hx hy (by simp only [binV]; rw [wrap_id h.1 h.2])

/-! ### 2. Addresses, loads -/
theorem iav_ro {t e k : Nat} {b : Bool} {rows : List (List T)} {row : List T} {j : Int} (hs : isSlice P t = some e) (ht : tyIs P e = some (b, k)) (hj : 0 ≤ j) (hr : rows[j.toNat]? = some row) (hk : row.length = k) : iav P R t (.c (.ro rows)) j = some (.c (.rp row)) := by
  simp [iav, hj, isSlice_of hs, ht, hr, hk]
theorem iav_sl {t e e' k i off len tot : Nat} {b : Bool} {rows : List (List T)} {j : Int} (hs : isSlice P t = some e) (ht : tyIs P e = some (b, k)) (hj : 0 ≤ j) (hR : R[i]? = some (.row e' k rows)) (hl : rows.length = tot) (hjl : j.toNat < len) : iav P R t (.c (.sl i off len tot)) j = some (.c (.ep i (off + j.toNat) 0 tot)) := by
  simp [iav, hj, isSlice_of hs, ht, hR, hl, hjl]
theorem isArr_of {t n e : Nat} (h : isArr P t = some (n, e)) : P.underlying t = some (.array n e) := by
  unfold isArr at h
  split at h
  · rename_i n' e' h1; rw [h1]; cases h; rfl
  · cases h
theorem iav_ar {t e k n : Nat} {b : Bool} {x y : AV} {j : Int} (hs : isArr P t = some (n, e)) (ht : tyIs P e = some (b, k)) (hj : 0 ≤ j) (hjn : j.toNat < n) (hp : ptrOk R x = true) (hy : fav (j.toNat * k) x = some y) : iav P R t x j = some y := by
  simp [iav, hj, isArr_of hs, ht, hjn, hp, hy]

theorem ld_bp {t n i off : Nat} {b : Bool} {cs : List AC} {y : AV} (hR : R[i]? = some (.box cs)) (ht : tyIs P t = some (b, n)) (hy : mkv b n ((cs.drop off).take n) = some y) : ldv P R t (.c (.bp i off)) = some y := by
  simp [ldv, hR, ht, hy]
theorem ld_rp {t n : Nat} {b : Bool} {ts : List T} {y : AV} (ht : tyIs P t = some (b, n)) (hy : mkv b n ((ts.take n).map tc) = some y) : ldv P R t (.c (.rp ts)) = some y := by
  simp only [ldv, ht, hy]
theorem ld_ep {t n i j off tot e k : Nat} {b : Bool} {rows : List (List T)} {row : List T} {y : AV} (hR : R[i]? = some (.row e k rows)) (hl : rows.length = tot) (hr : rows[j]? = some row) (ht : tyIs P t = some (b, n)) (hy : mkv b n (((row.drop off).take n).map tco) = some y) : ldv P R t (.c (.ep i j off tot)) = some y := by
  simp only [ldv, hR, hl, hr, ht, hy, if_true]

theorem st_bp {t n i off : Nat} {b : Bool} {cs ys : List AC} (hR : R[i]? = some (.box cs)) (ht : tyIs P t = some (b, n)) (hl : ys.length = n) (ho : off + n ≤ cs.length) : stv P R t (.c (.bp i off)) ys = some (R.set i (.box (splice cs off ys))) := by
  simp [stv, hR, ht, hl, ho]
theorem st_ep {t n i j off tot e k : Nat} {b : Bool} {rows : List (List T)} {row : List T} {ys : List AC} {xs : List Value} (hR : R[i]? = some (.row e k rows)) (hl : rows.length = tot) (hr : rows[j]? = some row) (ht : tyIs P t = some (b, n)) (hx : ys.mapM act = some xs) (hn : xs.length = n) (ho : off + n ≤ k) (ha : ((row.drop off).take n).all isSc = true) :
    stv P R t (.c (.ep i j off tot)) ys = some (R.set i (.row e k (rows.set j (splice row off (xs.map T.sc))))) := by
  simp [stv, hR, hl, hr, ht, hx, hn, ho, ha]

theorem E_region' {id : Nat} {ops : Array Oper} {L : List Nat} {Q : Exit → Slots → List Res → Prop} (hL : List.range ops.size = L) (h : EOps P N ops L s R (Q .normal)) : ECode P N (.region id ops false) s R Q := E_region (hL ▸ h)
end

theorem AR.ro_len {W : Wit} {R : List Res} {w : World} {rows : List (List T)} {v : Value} (h : AR W R w [.ro rows] [v]) : rows.length ≤ 9223372036854775807 := by
  cases h with
  | ro h2 _ =>
    cases h2 with
    | sl k g1 _ _ _ _ _ => have := g1.1; have := g1.2; unfold maxLen at this; omega

/-- The length of what is read is known to be small. -/
theorem E_bound {P : Program} {N : Nat} {s : Slots} {R : List Res} {c : Code} {Q : Exit → Slots → List Res → Prop} {t : Nat} {rows : List (List T)} (hs : get s t = .c (.ro rows)) (h : rows.length ≤ 9223372036854775807 → ECode P N c s R Q) : ECode P N c s R Q := by
  intro a w W hn
  have hv := hn.val t
  rw [hs] at hv
  exact h (AR.ro_len hv) a w W hn

/-! ### 3. Lists of whole numbers -/
def ints (xs : List Int) : List (List T) := xs.map fun x => [.sc (.int .i64 x)]
theorem ints_len (xs : List Int) : (ints xs).length = xs.length := by simp [ints]
theorem ints_at {xs : List Int} {k : Nat} {x : Int} (h : xs[k]? = some x) : (ints xs)[k]? = some [.sc (.int .i64 x)] := by simp [ints, h]
def bools (xs : List Bool) : List (List T) := xs.map fun x => [.sc (.bool x)]
theorem bools_len (xs : List Bool) : (bools xs).length = xs.length := by simp [bools]
theorem bools_at {xs : List Bool} {k : Nat} {x : Bool} (h : xs[k]? = some x) : (bools xs)[k]? = some [.sc (.bool x)] := by simp [bools, h]
def pairs (xs : List (Int × Int)) : List (List T) := xs.map fun x => [.sc (.int .i64 x.1), .sc (.int .i64 x.2)]
theorem pairs_len (xs : List (Int × Int)) : (pairs xs).length = xs.length := by simp [pairs]
theorem pairs_at {xs : List (Int × Int)} {k : Nat} {x : Int × Int} (h : xs[k]? = some x) : (pairs xs)[k]? = some [.sc (.int .i64 x.1), .sc (.int .i64 x.2)] := by simp [pairs, h]
def quads (xs : List (Int × Int × Int × Int)) : List (List T) := xs.map fun x => [.sc (.int .i64 x.1), .sc (.int .i64 x.2.1), .sc (.int .i64 x.2.2.1), .sc (.int .i64 x.2.2.2)]
theorem quads_len (xs : List (Int × Int × Int × Int)) : (quads xs).length = xs.length := by simp [quads]
theorem quads_at {xs : List (Int × Int × Int × Int)} {k : Nat} {x : Int × Int × Int × Int} (h : xs[k]? = some x) : (quads xs)[k]? = some [.sc (.int .i64 x.1), .sc (.int .i64 x.2.1), .sc (.int .i64 x.2.2.1), .sc (.int .i64 x.2.2.2)] := by simp [quads, h]

end Go.Proofs.Ytkaikajjhhnifaa.E
