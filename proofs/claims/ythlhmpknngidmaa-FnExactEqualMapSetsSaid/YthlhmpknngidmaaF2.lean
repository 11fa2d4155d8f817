/- Words of the session's own, put together: part 2. -/
import Derived.Test.YthlhmpknngidmaaF1
import Derived.Maps.AppendAt
import Derived.ProofKit
import Derived.OpenShut
import Derived.ShutString
import Derived.ChangeOld
import Derived.Carry
import Derived.SizedLaws
import Derived.Lib.SmallJoins
import Derived.Laws.StructEq
import Derived.Laws.Cover3
import Derived.Laws.Slices
namespace Go.Proofs.Ythlhmpknngidmaa.E
open Go Go.RowKit
set_option linter.unusedVariables false
set_option linter.unusedSimpArgs false

/-! ### 1. Numbers -/
theorem wrap_id {z : Int} (h : -9223372036854775808 ≤ z) (h' : z ≤ 9223372036854775807) : IntKind.i64.wrap z = z := by
  unfold IntKind.wrap; simp [IntKind.bits, IntKind.signed]; omega

section
variable {P : Program} {N : Nat} {s : Slots} {R : List Res} {K : Slots → List Res → Prop}

theorem L_add {o : Oper} {t t' : Nat} {x y : Operand} {u v : Int} (ho : o.op = .binOp .add t x y t') (hx : ev s x = .c (.sc (.int .i64 u))) (hy : ev s y = .c (.sc (.int .i64 v))) (h : -9223372036854775808 ≤ u + v ∧ u + v ≤ 9223372036854775807) : Pure P o s R (.c (.sc (.int .i64 (u + v)))) :=
  L_bin ho hx hy (by simp only [binV]; rw [wrap_id h.1 h.2])
theorem L_sub {o : Oper} {t t' : Nat} {x y : Operand} {u v : Int} (ho : o.op = .binOp .sub t x y t') (hx : ev s x = .c (.sc (.int .i64 u))) (hy : ev s y = .c (.sc (.int .i64 v))) (h : -9223372036854775808 ≤ u - v ∧ u - v ≤ 9223372036854775807) : Pure P o s R (.c (.sc (.int .i64 (u - v)))) :=
  L_bin ho hx hy (by simp only [binV]; rw [wrap_id h.1 h.2])
/-! ### 2. Addresses, loads -/
theorem iav_ro {t e k : Nat} {b : Bool} {rows : List (List T)} {row : List T} {j : Int} (hs : isSlice P t = some e) (ht : tyIs P e = some (b, k)) (hj : 0 ≤ j) (hr : rows[j.toNat]? = some row) (hk : row.length = k) : iav P R t (.c (.ro rows)) j = some (.c (.rp row)) := by
  simp [iav, hj, isSlice_of hs, ht, hr, hk]
theorem iav_sl {t e e' k i off len tot : Nat} {b : Bool} {rows : List (List T)} {j : Int} (hs : isSlice P t = some e) (ht : tyIs P e = some (b, k)) (hj : 0 ≤ j) (hR : R[i]? = some (.row e' k rows)) (hl : rows.length = tot) (hjl : j.toNat < len) : iav P R t (.c (.sl i off len tot)) j = some (.c (.ep i (off + j.toNat) 0 tot)) := by
  simp [iav, hj, isSlice_of hs, ht, hR, hl, hjl]
theorem ld_bp {t n i off : Nat} {b : Bool} {cs : List AC} {y : AV} (hR : R[i]? = some (.box cs)) (ht : tyIs P t = some (b, n)) (hy : mkv b n ((cs.drop off).take n) = some y) : ldv P R t (.c (.bp i off)) = some y := by
  simp [ldv, hR, ht, hy]
theorem ld_rp {t n : Nat} {b : Bool} {ts : List T} {y : AV} (ht : tyIs P t = some (b, n)) (hy : mkv b n ((ts.take n).map tc) = some y) : ldv P R t (.c (.rp ts)) = some y := by
  simp only [ldv, ht, hy]
theorem st_bp {t n i off : Nat} {b : Bool} {cs ys : List AC} (hR : R[i]? = some (.box cs)) (ht : tyIs P t = some (b, n)) (hl : ys.length = n) (ho : off + n ≤ cs.length) : stv P R t (.c (.bp i off)) ys = some (R.set i (.box (splice cs off ys))) := by
  simp [stv, hR, ht, hl, ho]
theorem st_ep {t n i j off tot e k : Nat} {b : Bool} {rows : List (List T)} {row : List T} {ys : List AC} {xs : List Value} (hR : R[i]? = some (.row e k rows)) (hl : rows.length = tot) (hr : rows[j]? = some row) (ht : tyIs P t = some (b, n)) (hx : ys.mapM act = some xs) (hn : xs.length = n) (ho : off + n ≤ k) (ha : ((row.drop off).take n).all isSc = true) :
    stv P R t (.c (.ep i j off tot)) ys = some (R.set i (.row e k (rows.set j (splice row off (xs.map T.sc))))) := by
  simp [stv, hR, hl, hr, ht, hx, hn, ho, ha]

theorem E_region' {id : Nat} {ops : Array Oper} {L : List Nat} {Q : Exit → Slots → List Res → Prop} (hL : List.range ops.size = L) (h : EOps P N ops L s R (Q .normal)) : ECode P N (.region id ops false) s R Q := E_region (hL ▸ h)
end

theorem AR.ro_len {W : Wit} {R : List Res} {w : World} {rows : List (List T)} {v : Value} (h : AR W R w [.ro rows] [v]) : rows.length ≤ 9223372036854775807 := by
  cases h with
  | ro h2 _ =>
    cases h2 with
    | sl k g1 _ _ _ _ _ => have := g1.1; have := g1.2; unfold maxLen at this; omega

/-- The length of what is read is known to be small. -/
theorem E_bound {P : Program} {N : Nat} {s : Slots} {R : List Res} {c : Code} {Q : Exit → Slots → List Res → Prop} {t : Nat} {rows : List (List T)} (hs : get s t = .c (.ro rows)) (h : rows.length ≤ 9223372036854775807 → ECode P N c s R Q) : ECode P N c s R Q := by
  intro a w W hn
  have hv := hn.val t
  rw [hs] at hv
  exact h (AR.ro_len hv) a w W hn

/-! ### 3. Lists of whole numbers -/
def ints (xs : List Int) : List (List T) := xs.map fun x => [.sc (.int .i64 x)]
theorem ints_len (xs : List Int) : (ints xs).length = xs.length := by simp [ints]
theorem ints_at {xs : List Int} {k : Nat} {x : Int} (h : xs[k]? = some x) : (ints xs)[k]? = some [.sc (.int .i64 x)] := by simp [ints, h]
def bools (xs : List Bool) : List (List T) := xs.map fun x => [.sc (.bool x)]
theorem bools_len (xs : List Bool) : (bools xs).length = xs.length := by simp [bools]
theorem bools_at {xs : List Bool} {k : Nat} {x : Bool} (h : xs[k]? = some x) : (bools xs)[k]? = some [.sc (.bool x)] := by simp [bools, h]
def pairs (xs : List (Int × Int)) : List (List T) := xs.map fun x => [.sc (.int .i64 x.1), .sc (.int .i64 x.2)]
theorem pairs_len (xs : List (Int × Int)) : (pairs xs).length = xs.length := by simp [pairs]
theorem pairs_at {xs : List (Int × Int)} {k : Nat} {x : Int × Int} (h : xs[k]? = some x) : (pairs xs)[k]? = some [.sc (.int .i64 x.1), .sc (.int .i64 x.2)] := by simp [pairs, h]
def quads (xs : List (Int × Int × Int × Int)) : List (List T) := xs.map fun x => [.sc (.int .i64 x.1), .sc (.int .i64 x.2.1), .sc (.int .i64 x.2.2.1), .sc (.int .i64 x.2.2.2)]
theorem quads_len (xs : List (Int × Int × Int × Int)) : (quads xs).length = xs.length := by simp [quads]
def quints (xs : List (Int × Int × Int × Int × Int)) : List (List T) := xs.map fun x => [.sc (.int .i64 x.1), .sc (.int .i64 x.2.1), .sc (.int .i64 x.2.2.1), .sc (.int .i64 x.2.2.2.1), .sc (.int .i64 x.2.2.2.2)]
theorem quints_len (xs : List (Int × Int × Int × Int × Int)) : (quints xs).length = xs.length := by simp [quints]
end Go.Proofs.Ythlhmpknngidmaa.E

namespace Go.Proofs.Ythlhmpknngidmaa.E
open Go Go.RowKit
set_option linter.unusedVariables false
set_option linter.unusedSimpArgs false

/-! ### 1. Loops -/
def keepOf (s : Slots) : List Nat → Slots
  | [] => []
  | d :: l => (d, E.get s d) :: keepOf s l

def chk (s : Slots) : Slots → Prop
  | [] => True
  | (d, v) :: L => (v = .any ∨ E.get s d = v) ∧ chk s L

def Sub (L s : Slots) : Prop := ∀ d, E.get L d = .any ∨ E.get s d = E.get L d

theorem chk.sub {s : Slots} : ∀ {L : Slots}, chk s L → Sub L s
  | [], _ => fun d => .inl rfl
  | (e, v) :: L, h => fun d => by
    simp only [E.get]
    split
    · rename_i he; subst he; exact h.1
    · exact chk.sub h.2 d

theorem Sub.app {s : Slots} : ∀ {L M : Slots}, chk s L → Sub M s → Sub (L ++ M) s
  | [], M, _, k => k
  | (e, v) :: L, M, h, k => fun d => by
    simp only [List.cons_append, E.get]
    split
    · rename_i he; subst he; exact h.1
    · exact Sub.app h.2 k d

theorem keep_sub (s : Slots) : ∀ l, chk s (keepOf s l)
  | [] => trivial
  | d :: l => ⟨.inr rfl, keep_sub s l⟩

theorem Now.sub {N : Nat} {L s : Slots} {R : List Res} {a : Act} {w : World} {W : Wit} (h : Now N s R a w W) (hs : Sub L s) : Now N L R a w W :=
  ⟨h.size, h.defers, fun t => by
    rcases hs t with e | e
    · rw [e]; exact AVR.any ..
    · rw [← e]; exact h.val t, h.sep⟩

section
variable {P : Program} {N : Nat} {s : Slots} {R : List Res} {Q : Exit → Slots → List Res → Prop}

theorem ECode.sub {c : Code} {L : Slots} (hs : Sub L s) (h : ECode P N c L R Q) : ECode P N c s R Q :=
  fun a w W hn => h a w W (hn.sub hs)

/-- A loop: x says where it stands; what it turns is told by mods, what it keeps stands in base. -/
theorem E_for {α : Type} {c : Code} (keep : List Nat) (mods : α → Slots) (Rf : α → List Res) (I : α → Prop) (m : α → Nat) (x0 : α) {base : Slots} (hb : keepOf s keep = base) (h0 : I x0) (hR : R = Rf x0) (h1 : chk s (mods x0))
    (round : ∀ x, I x → ECode P N c (mods x ++ base) (Rf x) (EThen (fun s' R' => ∃ y, m y < m x ∧ I y ∧ R' = Rf y ∧ chk s' (mods y) ∧ chk s' base) Q)) : ECode P N (.loop c) s R Q := by
  refine E_loop (fun n s' R' => ∃ x, n = m x ∧ I x ∧ R' = Rf x ∧ chk s' (mods x) ∧ chk s' base) (m x0) ⟨x0, rfl, h0, hR, h1, by rw [← hb]; exact keep_sub s keep⟩ ?_
  rintro n s' R' ⟨x, rfl, hI, rfl, k1, k2⟩
  refine ECode.sub (Sub.app k1 k2.sub) ((round x hI).mono ?_)
  intro e s2 R2 h
  cases e with
  | normal =>
    obtain ⟨y, g1, g2⟩ := h
    exact ⟨m y, g1, y, rfl, g2⟩
  | exit id => exact h
  | goto l => exact h
  | ret => exact h
  | panic ch => exact h
  | outgrown => exact h

/-- A truth value is looked at. -/
theorem EOps_split {ops : Array Oper} {L : List Nat} {K : Slots → List Res → Prop} (d : Nat) {b : Bool} (hd : E.get s d = .c (.sc (.bool b))) (h1 : b = true → EOps P N ops L ((d, .c (.sc (.bool true))) :: s) R K) (h2 : b = false → EOps P N ops L ((d, .c (.sc (.bool false))) :: s) R K) : EOps P N ops L s R K := by
  intro Q a w W hn
  refine (?_ : EOps P N ops L ((d, .c (.sc (.bool b))) :: s) R K) Q a w W ⟨hn.size, hn.defers, fun t => ?_, hn.sep⟩
  · cases b
    · exact h2 rfl
    · exact h1 rfl
  · simp only [E.get]
    split
    · rename_i e; subst e; rw [← hd]; exact hn.val d
    · exact hn.val t

end

/-! ### 2. More operations on scalars -/
theorem run_underlying_ {P : Program} {t : TypeId} {d : TypeDesc} (h : P.underlying t = some d) (w : World) : (underlying t).run P w = .ok d w := by
  simp [underlying, h]

theorem run_equal_bool {P : Program} {t : TypeId} (ht : P.underlying t = some .bool) (a b : Bool) (w : World) : (Op.equal t (.bool a) (.bool b)).run P w = .ok (a == b) w := by
  show (Op.equalIn (9999 + 1) t (.bool a) (.bool b)).run P w = _
  rw [Op.equalIn]
  simp only [Sem.run_bind, run_underlying_ ht, Result.andThen_ok]
  rfl

/-- Two truth values compared. -/
def binB : BinOp → Bool → Bool → Option Value
  | .eql, a, b => some (.bool (a == b))
  | .neq, a, b => some (.bool (a != b))
  | _, _, _ => none

section
variable {P : Program} {N : Nat} {s : Slots} {R : List Res} {K : Slots → List Res → Prop}

theorem L_binB {o : Oper} {t t' : Nat} {op : BinOp} {x y : Operand} {a b : Bool} {v : Value} (ho : o.op = .binOp op t x y t') (ht : P.underlying t = some .bool) (hx : ev s x = .c (.sc (.bool a))) (hy : ev s y = .c (.sc (.bool b))) (hv : binB op a b = some v) : Pure P o s R (.c (.sc v)) := fun N a' w W hn =>
  ⟨v, AR.sc1 (v := v) (by unfold binB at hv; split at hv <;> first | (cases hv; done) | (obtain rfl := Option.some.inj hv; rfl)), fun w' => by
    simp only [execOp, ho, hn.sc hx, hn.sc hy]
    unfold binB at hv
    split at hv
    · obtain rfl := Option.some.inj hv
      simp only [eqGuard, binOp, Sem.run_bind, run_equal_bool ht, Result.andThen_ok]
      rfl
    · obtain rfl := Option.some.inj hv
      simp only [eqGuard, binOp, Sem.run_bind, run_equal_bool ht, Result.andThen_ok]
      rfl
    · cases hv⟩

/-! ### 3. Structs and arrays as wholes -/
/-! ### 4. Closures -/
end

/-! ### 5. A function that leaves the resources as they stand -/
end Go.Proofs.Ythlhmpknngidmaa.E

namespace Go.Proofs.Ythlhmpknngidmaa.E
open Go Go.RowKit
set_option linter.unusedVariables false
set_option linter.unusedSimpArgs false

section
variable {P : Program} {N : Nat} {s : Slots} {R : List Res} {K : Slots → List Res → Prop}

theorem H_pcall1 {o : Oper} {x : Operand} {args : Array Operand} {ats : Array TypeId} {f : FuncId} {args' : List AV} {Q : AV → List Res → Prop} {d : Nat} (ho : o.op = .call { callee := .value x, args := args, argTypes := ats }) (hd : o.dst = some d) (hN : d < N) (hx : ev s x = .c (.fn f [])) (hf : callable P f = true)
    (h : EFn P f args' [] Q) (ha : (args.toList.map (ev s)).map (E.lend R) = args') (hq : ∀ r S, Q r S → r.own = true ∧ S.all Res.own = true)
    (hk : ∀ r S, Q r S → K ((d, r.sh R.length) :: s) (R ++ S.map (Res.sh R.length))) : Heavy P N o s R K :=
  H_pcall ho (fun d' hd' => by rw [hd] at hd'; cases hd'; exact hN) hx hf (ha ▸ h) hq (fun r S hr => by rw [hd]; exact hk r S hr)

/-- An operation that may make memory, turns nothing that stood and yields y. -/
def HeavyV (P : Program) (o : Oper) (s : Slots) (R : List Res) (K : AV → List Res → Prop) : Prop :=
  ∀ N Q a w W, Now N s R a w W → o.wp P a w (fun a' w' => Below w.heap.size w w' ∧ ∃ y R' W' v, K y R' ∧ a' = a.put o.dst v ∧ AVR W' R' w' y v ∧ Trans w W R w' W' R' ∧ Sep w' W' R') Q

/-! ### 1. Scalars alone -/
/-- A new row at the end. -/
theorem Sep.row {w w' : World} {W : Wit} {R : List Res} (hs : Sep w W R) {e k : Nat} {v : Value} {rows : List (List T)} {cells : List Value} (ho : w'.os = w.os) (htp : w'.tape = w.tape) (hout : w'.output = w.output) (hsz : w.heap.size ≤ w'.heap.size)
    (hold : ∀ b, b < w.heap.size → w'.heap[b]? = w.heap[b]?) (hk : 0 < k) (hr : ∀ r ∈ rows, r.length = k) (hown : w'.ownsRow 0 e k v rows.length cells) (hob : ∀ b, v.ownBlock = some b → w.heap.size ≤ b) (hc : Ow w' rows.flatten cells (fun _ => False)) :
    ∃ W', Trans w W R w' W' (R ++ [.row e k rows]) ∧ Sep w' W' (R ++ [.row e k rows]) ∧ W'.hs R.length = v := by
  obtain ⟨h1, h2⟩ := hs.more (w' := w') (r := .row e k rows) (v := v) (F := fun b => v.ownBlock = some b) ho htp hout hsz hold
    (fun b hb => ⟨hob b hb, (hown.lt b hb).2⟩) (fun h => by cases h) (fun tr => ⟨hk, hr, cells, fun _ => False, hown, hc, fun _ _ h => h, fun b => by simp⟩)
  exact ⟨_, h1, h2, by simp [Wit.new]⟩

/-- The whole of a row. -/
theorem sl_whole {W' : Wit} {R' : List Res} {w' : World} {i n : Nat} {e k : Nat} {rows : List (List T)} {v : Value} (hi : R'[i]? = some (.row e k rows)) (hl : rows.length = n) (hv : W'.hs i = v) (h1 : v.oneCell' = true) (hs : Sep w' W' R') : AVR W' R' w' (.c (.sl i 0 n n)) v := by
  have hlt : i < R'.length := by
    rcases Nat.lt_or_ge i R'.length with h' | h'
    · exact h'
    · rw [List.getElem?_eq_none h'] at hi; cases hi
  refine AR.sl h1 hlt (fun e' k' rows' hr => ?_) .nil
  rw [hi] at hr
  obtain ⟨rfl, rfl, rfl⟩ : e = e' ∧ k = k' ∧ rows = rows' := by cases hr; exact ⟨rfl, rfl, rfl⟩
  refine ⟨by omega, fun _ => ?_⟩
  obtain ⟨f1, f2, cells, G, f3, _⟩ := hs.res i _ hi
  obtain ⟨a, c, g1, g2, g3, _, g4⟩ := ownsRow_reads f3
  rw [hv] at g1
  refine ⟨a, rows.length, c, hv.trans g1, by omega, .inl ?_⟩
  rw [g1, hl]
  simp only [Nat.zero_mul, Nat.sub_zero]
  congr 1
  cases a with
  | none => rfl
  | some b =>
    rcases f3.2 with ⟨g5, _⟩ | ⟨g, cap, cur, g5, _⟩
    · rw [hv, g1] at g5; cases g5
    · rw [hv, g1] at g5
      have : b = ⟨g, 0, none⟩ := by cases g5; rfl
      rw [this]; rfl

/-! ### 2. A row is made -/
def zT : AC → T
  | .sc (.slice none 0 0) => .sl []
  | .sc v => .sc v
  | _ => .sl []

theorem zT_ow {w : World} : ∀ {zs : List Value}, zs.all (·.oneCell') = true → Ow w ((zs.map AC.sc).map zT) zs (fun _ => False)
  | [], _ => .nil
  | z :: zs, h => by
    simp only [List.all_cons, Bool.and_eq_true] at h
    have ih := zT_ow (w := w) h.2
    simp only [List.map_cons, zT]
    split
    · rename_i e
      obtain rfl : z = .slice none 0 0 := by cases e; rfl
      have := Ow.sl (w := w) (rows := []) (v := .slice none 0 0) (cells := []) 0 1 (by omega) (by simp) ⟨rfl, .inl ⟨rfl, rfl⟩⟩ (by simpa using Ow.nil) ih (fun b hb => by cases hb) (fun _ h => False.elim h)
      have e2 : (fun b : Nat => (Value.slice none 0 0).ownBlock = some b ∨ (fun _ : Nat => False) b ∨ (fun _ : Nat => False) b) = fun _ => False := by funext b; simp [Value.ownBlock]
      rw [e2] at this
      exact this
    · rename_i v _ e
      obtain rfl : z = v := by cases e; rfl
      exact .sc h.1 ih
    · rename_i e1 e2; exact absurd rfl (e2 z)

theorem madeCells_flat (z : Array Value) : ∀ n, (madeCells z (n * z.size)).toList = (List.replicate n z.toList).flatten := by
  intro n
  have hk : ∀ r ∈ List.replicate n z.toList, r.length = z.size := by
    intro r hr
    rw [List.eq_of_mem_replicate hr]; simp
  apply List.ext_getElem?
  intro j
  by_cases hj : j < n * z.size
  · have hz : 0 < z.size := Nat.pos_of_ne_zero fun h => by rw [h] at hj; omega
    have hq : j / z.size < n := (Nat.div_lt_iff_lt_mul hz).2 hj
    have hm := Nat.mod_lt j hz
    have h1 := flatten_row hk (j := j / z.size) (row := z.toList) (by simp [hq])
    have h2 : (List.replicate n z.toList).flatten[j]? = z.toList[j % z.size]? := by
      have := congrArg (fun l => l[j % z.size]?) h1
      simp only [List.getElem?_take, hm, if_true, List.getElem?_drop] at this
      rwa [show j / z.size * z.size + j % z.size = j by rw [Nat.mul_comm]; exact Nat.div_add_mod j z.size] at this
    rw [h2]
    simp [madeCells, hj, hm]
  · rw [List.getElem?_eq_none (by rw [Array.length_toList, size_madeCells]; omega), List.getElem?_eq_none (by rw [flatten_len hk, List.length_replicate]; omega)]

theorem Ow.rep {w : World} {ts : List T} {vs : List Value} (h : Ow w ts vs (fun _ => False)) : ∀ n, Ow w (List.replicate n ts).flatten (List.replicate n vs).flatten (fun _ => False)
  | 0 => (Ow.nil : Ow w [] [] (fun _ => False))
  | n + 1 => by
    obtain ⟨H, h1, h2⟩ := h.append (Ow.rep h n) (fun _ h => False.elim h)
    have : H = fun _ => False := by funext b; exact propext ((h2 b).trans (by simp))
    rw [this] at h1
    rw [List.replicate_succ, List.replicate_succ, List.flatten_cons, List.flatten_cons]
    exact h1

theorem by_parts {t bytes : Nat} {b : Bool} {k : Nat} {zs : List AC} (hty : tyIs P t = some (b, k)) (hby : (P.info? t).map (·.bytes) = some bytes) (hz : zav P t = some zs) :
    ∃ i z, P.info? t = some i ∧ i.zero = some z ∧ i.size = k ∧ i.bytes = bytes ∧ zs = z.cells.toList.map AC.sc ∧ z.cells.toList.all (·.oneCell') = true := by
  obtain ⟨d, i, h1, _, h2, h3⟩ := tyIs_parts hty
  unfold zav at hz
  rw [h2] at hz hby
  simp only [Option.bind_some] at hz
  cases hi : i.zero with
  | none => rw [hi] at hz; cases hz
  | some z =>
    rw [hi] at hz
    simp only at hz
    split at hz
    · rename_i ha
      exact ⟨i, z, h2, hi, h3, by simpa using hby, (Option.some.inj hz).symm, ha⟩
    · cases hz

theorem H_make {o : Oper} {d t e n k bytes : Nat} {x y : Operand} {b : Bool} {zs : List AC} (ho : o.op = .makeSlice t x y) (hd : o.dst = some d) (hN : d < N) (hx : ev s x = .c (.sc (.int .i64 (n : Int)))) (hy : ev s y = .c (.sc (.int .i64 (n : Int))))
    (ht : isSlice P t = some e) (hty : tyIs P e = some (b, k)) (hby : (P.info? e).map (·.bytes) = some bytes) (hz : zav P e = some zs) (hzl : zs.length = k ∧ 0 < k) (hn : bytes * n ≤ 281474976710656 ∧ n ≤ 9223372036854775807)
    (h : K ((d, .c (.sl R.length 0 n n)) :: s) (R ++ [.row e k (List.replicate n (zs.map zT))])) : Heavy P N o s R K := by
  intro Q a w W hn'
  obtain ⟨i, z, h1, h2, h3, h4, rfl, h6⟩ := by_parts hty hby hz
  have hzk : z.cells.size = k := by have := hzl.1; simpa using this
  obtain ⟨w', r1, r2, r3⟩ := run_make_full (P := P) w 0 t e i z k (isSlice_of ht) h1 h2 h3 .i64 .i64 n (by rw [h4]; exact hn.1) (by unfold maxLen; omega) (Nat.zero_le _)
  have hfl : (madeCells z.cells (n * k)).toList = (List.replicate n z.cells.toList).flatten := by rw [← hzk]; exact madeCells_flat _ _
  obtain ⟨W', k1, k2, k3⟩ := hn'.sep.row (rows := List.replicate n ((z.cells.toList.map AC.sc).map zT)) (cells := (madeCells z.cells (n * k)).toList) (k := k) (e := e) (v := .slice (some ⟨w.heap.size, 0, none⟩) n n) r3.os r3.tape r3.output r3.size
    (fun b hb => r3.block b hb (by simp)) hzl.2 (fun r hr => by rw [List.eq_of_mem_replicate hr]; simpa using hzk) (by rw [List.length_replicate]; exact r2) (fun b hb => by cases hb; exact Nat.le_refl _)
    (by rw [hfl]; exact (zT_ow h6).rep n)
  unfold Oper.wp
  have hr : (execOp a.eval o).run P w = .ok (.value (.slice (some ⟨w.heap.size, 0, none⟩) n n)) w' := by
    simp only [execOp, ho, hn'.sc hx, hn'.sc hy, Sem.run_bind, r1, Result.andThen_ok]; rfl
  rw [hr, Oper.upon_value, hd]
  exact ⟨⟨r3.os, r3.tape, r3.output, r3.size, fun b hb => r3.block b hb (by simp)⟩, _, _, W', h, (hn'.next k1 k2).put hN (sl_whole (e := e) (k := k) (rows := List.replicate n ((z.cells.toList.map AC.sc).map zT)) (by simp) (by simp) k3 rfl k2), k1⟩

end

theorem cons_eq {α : Type} {a b : α} {l m : List α} (h : a = b) (k : l = m) : a :: l = b :: m := by rw [h, k]
theorem lendC_whole {R : List Res} {i e k n : Nat} {rows : List (List T)} (hR : R[i]? = some (.row e k rows)) (hn : rows.length = n) : lendC R (.sl i 0 n n) = .ro rows := by
  simp [lendC, hR, hn, List.take_of_length_le (Nat.le_of_eq hn)]
theorem ren_sc (n : Nat) (σ : List Nat) (v : Value) : AC.ren n σ (.sc v) = .sc v := rfl
theorem ren_ro (n : Nat) (σ : List Nat) (v : List (List T)) : AC.ren n σ (.ro v) = .ro v := rfl
theorem bool_eq {a b : Bool} (h : a = true ↔ b = true) : AV.c (.sc (.bool a)) = .c (.sc (.bool b)) := by rw [Bool.eq_iff_iff.2 h]
theorem agg_eq {a b : List AC} (h : a = b) : AV.agg a = AV.agg b := by rw [h]
theorem int_eq {a b : Int} (h : a = b) : AV.c (.sc (.int .i64 a)) = .c (.sc (.int .i64 b)) := by rw [h]

/-! ### 3. Lists of scalars, told anew -/
theorem ints_set {xs : List Int} {k : Nat} {x : Int} : (ints xs).set k [.sc (.int .i64 x)] = ints (xs.set k x) := by simp [ints, List.map_set]
theorem ints_rep (n : Nat) : List.replicate n [T.sc (.int .i64 0)] = ints (List.replicate n 0) := by simp [ints]
theorem pairs_set {xs : List (Int × Int)} {k : Nat} {x : Int × Int} : (pairs xs).set k [.sc (.int .i64 x.1), .sc (.int .i64 x.2)] = pairs (xs.set k x) := by simp [pairs, List.map_set]
theorem pairs_rep (n : Nat) : List.replicate n [T.sc (.int .i64 0), T.sc (.int .i64 0)] = pairs (List.replicate n (0, 0)) := by simp [pairs]
/-- The first k as asked, the rest as at the start. -/
def part {α : Type} (xs : List α) (z : α) (k : Nat) : List α := xs.take k ++ List.replicate (xs.length - k) z
theorem part_zero {α : Type} (xs : List α) (z : α) : part xs z 0 = List.replicate xs.length z := by simp [part]
theorem part_len {α : Type} (xs : List α) (z : α) {k : Nat} (h : k ≤ xs.length) : (part xs z k).length = xs.length := by simp [part]; omega
theorem part_full {α : Type} (xs : List α) (z : α) {k : Nat} (h : xs.length ≤ k) : part xs z k = xs := by
  simp [part, List.take_of_length_le h, show xs.length - k = 0 by omega]
theorem part_set {α : Type} {xs : List α} {z x : α} {k : Nat} (h : xs[k]? = some x) : (part xs z k).set k x = part xs z (k + 1) := by
  have hk : k < xs.length := by
    rcases Nat.lt_or_ge k xs.length with h' | h'
    · exact h'
    · rw [List.getElem?_eq_none h'] at h; cases h
  have hx : xs[k] = x := by rw [List.getElem?_eq_getElem hk] at h; exact Option.some.inj h
  unfold part
  rw [List.set_append, if_neg (by simp; omega), List.length_take, Nat.min_eq_left (Nat.le_of_lt hk), Nat.sub_self, List.take_succ_eq_append_getElem hk, hx]
  obtain ⟨m, hm⟩ : ∃ m, xs.length - k = m + 1 := ⟨xs.length - k - 1, by omega⟩
  rw [hm, List.replicate_succ, List.set_cons_zero, show xs.length - (k + 1) = m by omega]
  simp
theorem part_at {α : Type} {xs : List α} {z : α} {k : Nat} (h : k < xs.length) : (part xs z k)[k]? = some z := by
  unfold part
  rw [List.getElem?_append_right (by simp; omega), List.length_take, Nat.min_eq_left (Nat.le_of_lt h), Nat.sub_self, List.getElem?_replicate, if_pos (by omega)]

end Go.Proofs.Ythlhmpknngidmaa.E

namespace Go.Proofs.Ythlhmpknngidmaa.E
open Go Go.ChangeShapes Go.WideShapes Go.ChangeAt Go.RowKit Go.Joins
set_option linter.unusedVariables false
set_option linter.unusedSimpArgs false

/-! ### 1. Types of arguments -/
inductive Ty where
  | int
  | bool
  | str
  | sl (e : Ty)
  | st (b : Ty)
  | nil
  | cons (a b : Ty)

def Ty.den : Ty → Type
  | .int => Int
  | .bool => Bool
  | .str => ByteArray
  | .sl e => List e.den
  | .st b => b.den
  | .nil => Unit
  | .cons a b => a.den × b.den

def Ty.enc : (τ : Ty) → τ.den → List T
  | .int, n => [.sc (.int .i64 n)]
  | .bool, b => [.sc (.bool b)]
  | .str, s => [.sc (.string s)]
  | .sl e, xs => [.sl (List.map e.enc xs)]
  | .st b, y => b.enc y
  | .nil, _ => []
  | .cons a b, y => a.enc y.1 ++ b.enc y.2

def Ty.n : Ty → Nat
  | .int => 1
  | .bool => 1
  | .str => 1
  | .sl _ => 1
  | .st b => b.n
  | .nil => 0
  | .cons a b => a.n + b.n

/-- Whole numbers that are no whole numbers of Go's do not come up. -/
def Ty.ok : (τ : Ty) → τ.den → Prop
  | .int, n => -9223372036854775808 ≤ (show Int from n) ∧ (show Int from n) ≤ 9223372036854775807
  | .bool, _ => True
  | .str, s => (show ByteArray from s).size ≤ 9223372036854775807
  | .sl e, xs => ∀ x ∈ (show List e.den from xs), e.ok x
  | .st b, y => b.ok y
  | .nil, _ => True
  | .cons a b, y => a.ok y.1 ∧ b.ok y.2

def Ty.av : (τ : Ty) → τ.den → AV
  | .int, n => .c (.sc (.int .i64 n))
  | .bool, b => .c (.sc (.bool b))
  | .str, s => .c (.sc (.string s))
  | .sl e, xs => .c (.ro (List.map e.enc xs))
  | .st b, y => .agg ((b.enc y).map tc)
  | .nil, _ => .any
  | .cons _ _, _ => .any

theorem Ty.enc_len : ∀ (τ : Ty) (y : τ.den), (τ.enc y).length = τ.n
  | .int, _ => rfl
  | .bool, _ => rfl
  | .str, _ => rfl
  | .sl _, _ => rfl
  | .st b, y => Ty.enc_len b y
  | .nil, _ => rfl
  | .cons a b, y => by
    simp only [Ty.enc, Ty.n, List.length_append, Ty.enc_len a y.1, Ty.enc_len b y.2]

mutual
def fits (P : Program) : Ty → TypeId → Bool
  | .int, t => match P.underlying t with | some (.int .i64) => true | _ => false
  | .bool, t => match P.underlying t with | some .bool => true | _ => false
  | .str, t => match P.underlying t with | some .string => true | _ => false
  | .sl e, t => match P.underlying t with | some (.slice u) => P.cellsOf u == e.n && decide (0 < e.n) && fits P e u | _ => false
  | .st b, t => match P.underlying t with | some (.struct fs) => P.cellsOf t == b.n && fitsF P b fs.toList 0 | _ => false
  | .nil, _ => false
  | .cons _ _, _ => false
def fitsF (P : Program) : Ty → List Field → Nat → Bool
  | .nil, fs, _ => fs.isEmpty
  | .cons a b, fs, off => match fs with
    | f :: fs => f.offset == off && P.cellsOf f.type == a.n && fits P a f.type && fitsF P b fs (off + a.n)
    | [] => false
  | .int, _, _ => false
  | .bool, _, _ => false
  | .str, _, _ => false
  | .sl _, _, _ => false
  | .st _, _, _ => false
end

section
variable {H : Type} {enc : TypeId × Value → H} {P : Program} {w : World} {sp : Nat → Bool} {held : Bool}

theorem rows_of {e : Ty} {k : Nat} {a : Addr} {tr : List Value → Option (DataW H × List MemPlace)} (he : k = e.n)
    (hone : ∀ cs x, tr cs = some x → ∃ y, e.ok y ∧ Rd w (fun b => b < w.heap.size) (e.enc y) cs) :
    ∀ (elems : List (DataW H × List MemPlace)) (m : Nat), (∀ i, i < elems.length → (w.cells? 0 (a.add ((m + i) * k)) k).bind tr = elems[i]?) →
    ∃ (ys : List e.den) (inner : List Value), ys.length = elems.length ∧ (∀ y ∈ ys, e.ok y) ∧ Rd w (fun b => b < w.heap.size) (ys.map e.enc).flatten inner ∧ inner.length = elems.length * k ∧ ∀ j u, inner[j]? = some u → w.cell? (a.add (m * k + j)) = some u
  | [], m, h => ⟨[], [], rfl, by simp, .nil, by simp, by simp⟩
  | x :: elems, m, h => by
    have h0 := h 0 (by simp)
    simp only [List.getElem?_cons_zero, Nat.add_zero, Option.bind_eq_some_iff] at h0
    obtain ⟨cs, h1, h2⟩ := h0
    obtain ⟨y, hy, hrd⟩ := hone cs x h2
    obtain ⟨-, hl, hc⟩ := World.cells?_some h1
    obtain ⟨ys, inner, g1, g2, g3, g4, g5⟩ := rows_of he hone elems (m + 1) (fun i hi => by
      have := h (i + 1) (by simp; omega)
      rw [List.getElem?_cons_succ] at this
      rw [show m + 1 + i = m + (i + 1) by omega]; exact this)
    refine ⟨y :: ys, cs ++ inner, by simp [g1], fun z hz => by rcases List.mem_cons.1 hz with rfl | hz; exact hy; exact g2 z hz, ?_, by simp [hl, g4, Nat.add_mul]; omega, fun j u hj => ?_⟩
    · rw [List.map_cons, List.flatten_cons]; exact hrd.append g3
    · rw [List.getElem?_append] at hj
      have hadd : ∀ p q, (a.add p).add q = a.add (p + q) := fun p q => by
        unfold Addr.add
        by_cases hp : p = 0 <;> by_cases hq : q = 0 <;> simp [hp, hq]
        omega
      split at hj
      · rename_i hlt
        rw [hl] at hlt
        have := hc j hlt
        rw [hj, hadd] at this
        exact this
      · have := g5 _ u hj
        rw [show (m + 1) * k + (j - cs.length) = m * k + j by rw [Nat.add_mul, hl]; omega] at this
        exact this

theorem trodRd (τ : Ty) : (∀ t n cs x, fits P τ t = true → DataW.trod enc P w 0 sp held n t cs = some x → ∃ y : τ.den, τ.ok y ∧ Rd w (fun b => b < w.heap.size) (τ.enc y) cs) ∧
    (∀ (fs : List Field) (off n : Nat) (cs : List Value) (xs : List (DataW H × List MemPlace)), fitsF P τ fs off = true → xs.length = fs.length → (∀ (i : Nat) (f : Field), fs[i]? = some f → DataW.trod enc P w 0 sp held n f.type ((cs.drop f.offset).take (P.cellsOf f.type)) = xs[i]?) →
      ∃ y : τ.den, τ.ok y ∧ Rd w (fun b => b < w.heap.size) (τ.enc y) ((cs.drop off).take τ.n)) := by
  induction τ with
  | int =>
    refine ⟨fun t n cs x hf h => ?_, fun fs off n cs xs hf => by simp [fitsF] at hf⟩
    unfold fits at hf
    split at hf
    · rename_i hu
      obtain ⟨z, rfl, -, hw⟩ := DataW.trod_int hu h
      refine ⟨z, ?_, .sc rfl .nil⟩
      simp [Lit.wf, IntKind.has, IntKind.min, IntKind.max, IntKind.bits, IntKind.signed] at hw
      exact (⟨by omega, by omega⟩ : -9223372036854775808 ≤ z ∧ z ≤ 9223372036854775807)
    · cases hf
  | bool =>
    refine ⟨fun t n cs x hf h => ?_, fun fs off n cs xs hf => by simp [fitsF] at hf⟩
    unfold fits at hf
    split at hf
    · rename_i hu
      obtain ⟨z, rfl, -⟩ := DataW.trod_bool hu h
      exact ⟨z, trivial, .sc rfl .nil⟩
    · cases hf
  | str =>
    refine ⟨fun t n cs x hf h => ?_, fun fs off n cs xs hf => by simp [fitsF] at hf⟩
    unfold fits at hf
    split at hf
    · rename_i hu
      obtain ⟨z, rfl, -, hw⟩ := DataW.trod_string hu h
      exact ⟨z, by unfold maxLen at hw; exact (by omega : z.size ≤ 9223372036854775807), .sc rfl .nil⟩
    · cases hf
  | sl e ih =>
    refine ⟨fun t n cs x hf h => ?_, fun fs off n cs xs hf => by simp [fitsF] at hf⟩
    unfold fits at hf
    split at hf
    · rename_i u hu
      simp only [Bool.and_eq_true, beq_iff_eq, decide_eq_true_eq] at hf
      obtain ⟨⟨h1, h2⟩, h3⟩ := hf
      rcases DataW.trod_slice hu h with ⟨rfl, -⟩ | ⟨a, len, cap, elems, rest, m, rfl, rfl, -, -, hlc, hcm, hlen, hel, -, -⟩
      · exact ⟨[], by simp [Ty.ok], nil_ro _ _⟩
      · obtain ⟨ys, inner, g1, g2, g3, g4, g5⟩ := rows_of (w := w) (a := a) (k := P.cellsOf u) (e := e) (tr := DataW.trod enc P w 0 sp held m u) h1 (fun cs x hx => ih.1 u m cs x h3 hx) elems 0 (fun i hi => by rw [Nat.zero_add]; exact hel i (by omega))
        refine ⟨ys, g2, ?_⟩
        have := Rd.sl (w := w) (O := fun b => b < w.heap.size) (rows := ys.map e.enc) (a := some a) (c := cap) (inner := inner) (ts := []) (vs := []) e.n ⟨by rw [List.length_map, g1]; omega, hcm⟩ h2 (fun r hr => by
            obtain ⟨y, _, rfl⟩ := List.mem_map.1 hr
            exact Ty.enc_len e y) (fun hp => by
            rw [List.length_map, g1] at hp
            have hin : 0 < inner.length := by rw [g4, h1]; exact Nat.mul_pos hp h2
            have hc := g5 0 inner[0] (List.getElem?_eq_getElem hin)
            simp only [Nat.zero_mul, Nat.zero_add] at hc
            have ha : a.add 0 = a := by simp [Addr.add]
            rw [ha] at hc
            have hs : a.spot = none := by
              unfold World.cell? at hc
              split at hc
              · split at hc
                · cases hc
                · rename_i hsp; simpa using hsp
              · cases hc
            refine ⟨a.block, a.off, by rw [← hs], World.block_lt_of_cell? w _ hc, fun j u hj => ?_⟩
            have := g5 j u hj
            rw [Nat.zero_mul, Nat.zero_add] at this
            have e1 : a.add j = ⟨a.block, a.off + j, none⟩ := by
              unfold Addr.add
              split
              · rename_i h0; subst h0; rw [Nat.add_zero, ← hs]
              · rfl
            rwa [e1] at this) g3 .nil
        rw [List.length_map, g1, hlen] at this
        exact this
    · cases hf
  | st b ih =>
    refine ⟨fun t n cs x hf h => ?_, fun fs off n cs xs hf => by simp [fitsF] at hf⟩
    unfold fits at hf
    split at hf
    · rename_i fs hu
      simp only [Bool.and_eq_true, beq_iff_eq] at hf
      obtain ⟨h1, h2⟩ := hf
      obtain ⟨xs, m, rfl, -, hl, hxl, hx⟩ := DataW.trod_struct hu h
      obtain ⟨y, hy, hr⟩ := ih.2 fs.toList 0 m cs xs h2 (by simpa using hxl) (fun i f hi => hx i f (by simpa using hi))
      refine ⟨y, hy, ?_⟩
      rw [List.drop_zero, List.take_of_length_le (by omega)] at hr
      exact hr
    · cases hf
  | nil =>
    refine ⟨fun t n cs x hf => by simp [fits] at hf, fun fs off n cs xs hf hl hx => ⟨(), trivial, ?_⟩⟩
    rw [show Ty.nil.n = 0 from rfl, List.take_zero]
    exact Rd.nil
  | cons a b iha ihb =>
    refine ⟨fun t n cs x hf => by simp [fits] at hf, fun fs off n cs xs hf hl hx => ?_⟩
    unfold fitsF at hf
    split at hf
    · rename_i f fs'
      simp only [Bool.and_eq_true, beq_iff_eq] at hf
      obtain ⟨⟨⟨h1, h2⟩, h3⟩, h4⟩ := hf
      match xs, hl with
      | x0 :: xs', hl =>
        have h0 := hx 0 f rfl
        rw [List.getElem?_cons_zero] at h0
        obtain ⟨y1, k1, k2⟩ := iha.1 f.type n _ x0 h3 h0
        obtain ⟨y2, k3, k4⟩ := ihb.2 fs' (off + a.n) n cs xs' h4 (by simpa using hl) (fun i g hg => by
          have := hx (i + 1) g (by simpa using hg)
          simpa using this)
        refine ⟨(y1, y2), ⟨k1, k3⟩, ?_⟩
        have := k2.append k4
        rw [h1, h2] at this
        have e : (cs.drop off).take (a.n + b.n) = (cs.drop off).take a.n ++ (cs.drop (off + a.n)).take b.n := by
          rw [List.take_add, List.drop_drop]
        show Rd w _ (a.enc y1 ++ b.enc y2) ((cs.drop off).take (a.n + b.n))
        rw [e]
        exact this
    · cases hf

theorem open_any {τ : Ty} {t : TypeId} {r : Go.Reach} {b0 : Nat} {v : Value} {d : DataW H} {ps : List MemPlace} (hf : fits P τ t = true) (hv : Value.okWide P w r b0 t v) (hd : DataW.Trod enc P w 0 sp held t v d ps) :
    ∃ y : τ.den, τ.ok y ∧ AVR W0 [] w (τ.av y) v := by
  obtain ⟨n, h⟩ := hd
  obtain ⟨y, h1, h2⟩ := (trodRd (enc := enc) (P := P) (w := w) (sp := sp) (held := held) τ).1 t n _ _ hf h
  refine ⟨y, h1, ?_⟩
  have h3 : Rd w (W0.out w) (τ.enc y) v.cells.toList := h2.mono fun b hb => ⟨⟨hb, fun _ h => h⟩, rfl⟩
  cases τ with
  | int =>
    unfold fits at hf
    split at hf
    · rename_i hu
      obtain ⟨z, rfl⟩ := okWide_int hu hv
      exact h3.ar
    · cases hf
  | bool =>
    unfold fits at hf
    split at hf
    · rename_i hu
      obtain ⟨z, rfl⟩ := okWide_bool hu hv
      exact h3.ar
    · cases hf
  | str =>
    unfold fits at hf
    split at hf
    · rename_i hu
      obtain ⟨z, rfl⟩ := okWide_string hu hv
      exact h3.ar
    · cases hf
  | sl e =>
    unfold fits at hf
    split at hf
    · rename_i u hu
      obtain ⟨a, l, c, rfl⟩ := okWide_slice hu hv
      exact h3.ar
    · cases hf
  | st b =>
    unfold fits at hf
    split at hf
    · rename_i fs hu
      obtain ⟨cs, rfl, -⟩ := okWide_struct hu hv
      exact ⟨cs.toList, rfl, h3.ar⟩
    · cases hf
  | nil => simp [fits] at hf
  | cons a b => simp [fits] at hf
end

theorem AVs.nil {W : Wit} {R : List Res} {w : World} : AVs W R w [] [] := ⟨rfl, by simp⟩
theorem AVs.cons {W : Wit} {R : List Res} {w : World} {x : AV} {v : Value} {xs : List AV} {vs : List Value} (h : AVR W R w x v) (k : AVs W R w xs vs) : AVs W R w (x :: xs) (v :: vs) :=
  ⟨by simp [k.1], fun i y u hy hu => by
    cases i with
    | zero =>
      obtain rfl : x = y := by simpa using hy
      obtain rfl : v = u := by simpa using hu
      exact h
    | succ i => exact k.2 i y u (by simpa using hy) (by simpa using hu)⟩

/-! ### 2. A law's function, called over its arguments -/
theorem law_calls {P : Program} {f : FuncId} {args : List AV} {vals : List Value} {w : World} (h : EFn P f args [] (fun r S => r = .c (.sc (.bool true)) ∧ S = [])) (ha : AVs W0 [] w args vals) :
    Calls P f vals.toArray w fun e w' => e = .returned (.bool true) ∧ Below w.heap.size w w' := by
  refine (h w W0 vals ha (Sep.none w)).mono ?_
  rintro e w' ⟨r, S, V, ⟨rfl, rfl⟩, ⟨v, rfl, k2⟩, k3, k4⟩
  refine ⟨?_, ⟨k4.os, k4.tape, k4.output, k4.size, fun b hb => k4.frame b ⟨hb, fun _ h => h⟩⟩⟩
  rw [AR.sc_inv k2]

end Go.Proofs.Ythlhmpknngidmaa.E

namespace Go.Proofs.Ythlhmpknngidmaa.E
open Go Go.RowKit
set_option linter.unusedVariables false
set_option linter.unusedSimpArgs false

/-! ### 1. Structs of whole numbers -/
def isI64 (P : Program) (t : TypeId) : Bool := match P.underlying t with | some (.int .i64) => tyIs P t == some (false, 1) | _ => false
theorem isI64_parts {P : Program} {t : TypeId} (h : isI64 P t = true) : P.underlying t = some (.int .i64) ∧ tyIs P t = some (false, 1) := by
  unfold isI64 at h
  split at h
  · rename_i hu; exact ⟨hu, by simpa using h⟩
  · cases h

def intFs (P : Program) : Nat → List Field → Bool
  | _, [] => true
  | m, f :: fs => f.name != "_" && f.offset == m && isI64 P f.type && intFs P (m + 1) fs

def intStruct (P : Program) (t : TypeId) : Bool := match P.underlying t with
  | some (.struct fs) => intFs P 0 fs.toList && !P.stoodInHeld t && !P.eqGuardType P.depth t
  | _ => false

theorem run_part_at {P : Program} {t : TypeId} (ht : tyIs P t = some (false, 1)) {xs : Array Value} {m : Nat} {v : Value} (h : xs[m]? = some v) (w : World) : (Go.part t xs m).run P w = .ok v w := by
  unfold Go.part
  simp only [Sem.run_bind, run_isAgg_ ht, Result.andThen_ok, Bool.false_eq_true, if_false, h, Sem.run_pure]

theorem run_eqFields_ints {P : Program} {d : Nat} {as bs : List Int} {xs ys : Array Value} (hx : xs.toList = as.map (Value.int .i64)) (hy : ys.toList = bs.map (Value.int .i64)) : ∀ (fs : List Field) (m : Nat), intFs P m fs = true → as.length = m + fs.length → bs.length = m + fs.length →
    ∀ w, (Op.eqFields (d + 1) xs ys fs).run P w = .ok (as.drop m == bs.drop m) w
  | [], m, _, h1, h2, w => by
    rw [List.drop_of_length_le (by simp at h1; omega), List.drop_of_length_le (by simp at h2; omega)]
    rfl
  | f :: fs, m, h, h1, h2, w => by
    simp only [intFs, Bool.and_eq_true, bne_iff_ne, ne_eq, beq_iff_eq] at h
    obtain ⟨⟨⟨g1, g2⟩, g3⟩, g4⟩ := h
    obtain ⟨k1, k2⟩ := isI64_parts g3
    simp only [List.length_cons] at h1 h2
    have ha : m < as.length := by omega
    have hb : m < bs.length := by omega
    have ea : xs[m]? = some (.int .i64 as[m]) := by rw [← Array.getElem?_toList, hx, List.getElem?_map, List.getElem?_eq_getElem ha]; rfl
    have eb : ys[m]? = some (.int .i64 bs[m]) := by rw [← Array.getElem?_toList, hy, List.getElem?_map, List.getElem?_eq_getElem hb]; rfl
    rw [List.drop_eq_getElem_cons ha, List.drop_eq_getElem_cons hb]
    simp only [Op.eqFields, g1, ne_eq, not_false_eq_true, if_true, Sem.run_bind, g2, run_part_at k2 ea, run_part_at k2 eb, Result.andThen_ok, run_equalIn_int w d f.type .i64 .i64 _ _ k1]
    by_cases e : as[m] = bs[m]
    · simp only [e, beq_self_eq_true, Bool.not_true, Bool.false_eq_true, if_false]
      rw [run_eqFields_ints hx hy fs (m + 1) g4 (by omega) (by omega) w, List.cons_beq_cons]
      simp only [beq_self_eq_true, Bool.true_and]
    · have e2 : (as[m] == bs[m]) = false := by simpa using e
      rw [List.cons_beq_cons, e2]
      simp only [Bool.not_false, if_true, Sem.run_pure, Bool.false_and]

def intsOf : List AC → Option (List Int)
  | [] => some []
  | .sc (.int .i64 n) :: l => (intsOf l).map (n :: ·)
  | _ => none

theorem intsOf_rel {W : Wit} {R : List Res} {w : World} {cs : List AC} {vs : List Value} (h : AR W R w cs vs) : ∀ {as : List Int}, intsOf cs = some as → vs = as.map (Value.int .i64) := by
  induction h with
  | nil =>
    intro as h
    obtain rfl : [] = as := by simpa [intsOf] using h
    rfl
  | @sc v cs vs h1 _ ih =>
    intro as h
    unfold intsOf at h
    split at h
    · rename_i e; cases e
    · rename_i n l e
      obtain ⟨rfl, rfl⟩ : v = .int .i64 n ∧ cs = l := by cases e; exact ⟨rfl, rfl⟩
      cases hl : intsOf cs with
      | none => rw [hl] at h; cases h
      | some q =>
        rw [hl] at h
        obtain rfl : n :: q = as := by simpa using h
        rw [ih hl]; rfl
    · cases h
  | any _ _ _ => intro as h; simp [intsOf] at h
  | ro _ _ _ => intro as h; simp [intsOf] at h
  | sl _ _ _ _ _ => intro as h; simp [intsOf] at h
  | bp _ _ _ _ _ => intro as h; simp [intsOf] at h
  | ep _ _ _ _ _ => intro as h; simp [intsOf] at h
  | rp _ _ _ _ _ _ _ _ _ => intro as h; simp [intsOf] at h
  | fn _ _ _ _ => intro as h; simp [intsOf] at h

def binA : BinOp → List Int → List Int → Option Value
  | .eql, a, b => some (.bool (a == b))
  | .neq, a, b => some (.bool (!(a == b)))
  | _, _, _ => none

section
variable {P : Program} {N : Nat} {s : Slots} {R : List Res} {K : Slots → List Res → Prop}

theorem L_binA {o : Oper} {t t' : Nat} {op : BinOp} {x y : Operand} {xs ys : List AC} {as bs : List Int} {fs : Nat} {v : Value} (ho : o.op = .binOp op t x y t') (ht : intStruct P t = true) (hn : (P.fieldsOf t).size = fs) (hx : ev s x = .agg xs) (hy : ev s y = .agg ys)
    (ha : intsOf xs = some as) (hb : intsOf ys = some bs) (hl : as.length = fs ∧ bs.length = fs) (hv : binA op as bs = some v) : Pure P o s R (.c (.sc v)) := fun N a w W hn' => by
  have h1 := hn'.ev x
  have h2 := hn'.ev y
  rw [hx] at h1
  rw [hy] at h2
  obtain ⟨us, e1, r1⟩ := h1
  obtain ⟨zs, e2, r2⟩ := h2
  have q1 := intsOf_rel r1 ha
  have q2 := intsOf_rel r2 hb
  unfold intStruct at ht
  split at ht
  · rename_i fl hu
    simp only [Bool.and_eq_true, Bool.not_eq_true'] at ht
    obtain ⟨⟨g1, g2⟩, g3⟩ := ht
    have hf : P.fieldsOf t = fl := by simp [Program.fieldsOf, hu]
    have hsz : fl.toList.length = fs := by rw [← hn, hf]; simp
    have key : ∀ w', (Op.equalIn 10000 t (.agg us.toArray) (.agg zs.toArray)).run P w' = .ok (as == bs) w' := fun w' => by
      rw [run_equalIn_struct w' 9999 t _ _ (by rw [hf]; exact hu) g2, hf]
      have := run_eqFields_ints (P := P) (d := 9998) (as := as) (bs := bs) (xs := us.toArray) (ys := zs.toArray) (by simpa using q1) (by simpa using q2) fl.toList 0 g1 (by omega) (by omega) w'
      simpa using this
    refine ⟨v, AR.sc1 (v := v) (by unfold binA at hv; split at hv <;> first | (cases hv; done) | (obtain rfl := Option.some.inj hv; rfl)), fun w' => ?_⟩
    simp only [execOp, ho, e1, e2, Sem.run_bind, run_eqGuard_agg w' op t x y _ _ g3, Result.andThen_ok]
    unfold binA at hv
    split at hv
    · obtain rfl := Option.some.inj hv
      rw [run_eql_struct, key w']; rfl
    · obtain rfl := Option.some.inj hv
      rw [run_neq_struct, key w']; rfl
    · cases hv
  · cases ht

/-- What is no longer needed is let go, what is held is told shortly. -/
theorem E_tidy {c : Code} {Q : Exit → Slots → List Res → Prop} (keep : List Nat) {base : Slots} {R' : List Res} (hb : keepOf s keep = base) (hR : R = R') (h : ECode P N c base R' Q) : ECode P N c s R Q := by
  subst hR
  subst hb
  exact ECode.sub (keep_sub s keep).sub h

/-! ### 2. A slice compared with nil: either answer; if it is nil, there is nothing in it -/
end
end Go.Proofs.Ythlhmpknngidmaa.E

namespace Go.Proofs.Ythlhmpknngidmaa.E
open Go Go.RowKit
set_option linter.unusedVariables false
set_option linter.unusedSimpArgs false

section
variable {P : Program} {N : Nat} {s : Slots} {R : List Res} {K : Slots → List Res → Prop}

/-! ### 1. append -/
end
end Go.Proofs.Ythlhmpknngidmaa.E

namespace Go.Proofs.Ythlhmpknngidmaa.E
open Go Go.RowKit
set_option linter.unusedVariables false
set_option linter.unusedSimpArgs false

section
variable {P : Program} {N : Nat} {s : Slots} {R : List Res} {K : Slots → List Res → Prop}

/-! ### A row written out -/
end

/-! ### A callee that turns rows of its caller's -/
theorem AR.tops {W : Wit} {R : List Res} {w : World} {cs : List AC} {vs : List Value} (h : AR W R w cs vs) : AC.top.tops cs ≤ R.length := by
  induction h with
  | nil => exact Nat.zero_le _
  | sc _ _ ih => simpa [AC.top.tops, AC.top] using ih
  | any _ _ ih => simpa [AC.top.tops, AC.top] using ih
  | ro _ _ ih => simpa [AC.top.tops, AC.top] using ih
  | rp _ _ _ _ _ _ _ _ ih => simpa [AC.top.tops, AC.top] using ih
  | sl _ h2 _ _ ih => simp only [AC.top.tops, AC.top]; omega
  | bp _ h2 _ _ ih => simp only [AC.top.tops, AC.top]; omega
  | ep _ h2 _ _ ih => simp only [AC.top.tops, AC.top]; omega
  | fn _ _ ih1 ih2 => simp only [AC.top.tops, AC.top]; omega

mutual
theorem ren_id {n : Nat} {σ : List Nat} : ∀ (c : AC), c.top ≤ n → c.ren n σ = c
  | .sc _, _ => rfl
  | .ro _, _ => rfl
  | .rp _, _ => rfl
  | .any, _ => rfl
  | .sl i _ _ _, h => by simp only [AC.top] at h; simp only [AC.ren, show i < n by omega, if_true]
  | .bp i _, h => by simp only [AC.top] at h; simp only [AC.ren, show i < n by omega, if_true]
  | .ep i _ _ _, h => by simp only [AC.top] at h; simp only [AC.ren, show i < n by omega, if_true]
  | .fn f caps, h => by simp only [AC.top] at h; simp only [AC.ren, rens_id (n := n) (σ := σ) caps h]
theorem rens_id {n : Nat} {σ : List Nat} : ∀ (cs : List AC), AC.top.tops cs ≤ n → AC.ren.rens n σ cs = cs
  | [], _ => rfl
  | c :: cs, h => by
    simp only [AC.top.tops] at h
    simp only [AC.ren.rens, ren_id (n := n) (σ := σ) c (by omega), rens_id (n := n) (σ := σ) cs (by omega)]
end

/-- Are the variables as they were? -/
def Res.told : Res → Bool
  | .box _ => true
  | .pin _ _ => true
  | _ => false
end Go.Proofs.Ythlhmpknngidmaa.E

namespace Go.Proofs.Ythlhmpknngidmaa.E
open Go Go.RowKit
set_option linter.unusedVariables false
set_option linter.unusedSimpArgs false

theorem AR.cons_inv {W : Wit} {R : List Res} {w : World} {c : AC} {cs : List AC} {v : Value} {vs : List Value} (h : AR W R w (c :: cs) (v :: vs)) : AR W R w [c] [v] ∧ AR W R w cs vs :=
  ⟨by have := h.take 1; simpa using this, by have := h.drop 1; simpa using this⟩

theorem AR.cons_mk {W : Wit} {R : List Res} {w : World} {c : AC} {cs : List AC} {v : Value} {vs : List Value} (h : AR W R w [c] [v]) (k : AR W R w cs vs) : AR W R w (c :: cs) (v :: vs) := h.append k

/-! ### Resources that are not told one by one -/
end Go.Proofs.Ythlhmpknngidmaa.E

namespace Go.Proofs.Ythlhmpknngidmaa.E
open Go Go.RowKit
set_option linter.unusedVariables false
set_option linter.unusedSimpArgs false

/-- A row of one's own, read. -/
theorem sl_rd {W : Wit} {R : List Res} {w : World} {O : Nat → Prop} (hs : Sep w W R) {i off len tot e k : Nat} {rows : List (List T)} {v : Value} (hR : R[i]? = some (.row e k rows)) (ht : rows.length = tot) (h2 : tot ≤ rows.length) (h3 : slAt (W.hs i) v k off len) (hO : ∀ b, W.fs i b → O b) :
    Rd w O [.sl ((rows.drop off).take len)] [v] := by
  obtain ⟨a, n, c, e1, e0, e2⟩ := h3
  obtain ⟨f1, f2, cells, G, f3, f4, f5, f6⟩ := hs.res i _ hR
  obtain ⟨a', c', g1, g2, gm, g0, g3⟩ := ownsRow_reads f3
  rw [e1] at g1
  obtain ⟨rfl, rfl, rfl⟩ : a = a' ∧ n = rows.length ∧ c = c' := by cases g1; exact ⟨rfl, rfl, rfl⟩
  have hsub : ((rows.drop off).take len).length = len := by rw [List.length_take, List.length_drop]; omega
  have hrd : Rd w O rows.flatten cells := f4.rd fun b hb => hO b ((f6 b).2 (.inr hb))
  have hrd2 : Rd w O ((rows.drop off).take len).flatten ((cells.drop (off * k)).take (len * k)) := by
    rw [flatten_sub f2]; exact (hrd.drop _).take _
  have hk2 : ∀ r ∈ (rows.drop off).take len, r.length = k := fun r hr => f2 r (List.mem_of_mem_drop (List.mem_of_mem_take hr))
  rcases e2 with e2 | ⟨rfl, h0, a2, c2, e2, e3⟩
  · subst e2
    have := Rd.sl (w := w) (O := O) (rows := (rows.drop off).take len) (a := a.map fun b => ⟨b.block, off * k, none⟩) (c := c - off) (inner := (cells.drop (off * k)).take (len * k)) (ts := []) (vs := []) k ⟨by omega, by omega⟩ f1 hk2 (fun hp => by
      obtain ⟨b, rfl, hb, hc⟩ := g3 (by omega)
      refine ⟨b, off * k, rfl, hO b ((f6 b).2 (.inl hb)), fun j u hj => ?_⟩
      rw [List.getElem?_take] at hj
      split at hj
      · rw [List.getElem?_drop] at hj
        have := hc _ u hj
        rwa [Nat.zero_add] at this
      · cases hj) hrd2 .nil
    rwa [hsub] at this
  · subst e2
    have := Rd.sl (w := w) (O := O) (rows := (rows.drop off).take 0) (a := a2) (c := c2) (inner := []) (ts := []) (vs := []) k ⟨by simp, e3⟩ f1 (by simp) (fun hp => by simp at hp) (by simpa using Rd.nil) .nil
    simpa using this

/-! ### 1. Handing over -/
def AC.sub (R : List Res) (σ : List Nat) : AC → AC
  | .sl i off len tot => match ix σ i with
    | some q => .sl q off len tot
    | none => match R[i]? with
      | some (.row e k rows) => if rows.length = tot then .ro ((rows.drop off).take len) else .any
      | _ => .any
  | .bp i off => match ix σ i with | some q => .bp q off | none => .any
  | .ep i j off tot => match ix σ i with | some q => .ep q j off tot | none => .any
  | .fn f caps => .fn f (subs R σ caps)
  | c => c
where subs (R : List Res) (σ : List Nat) : List AC → List AC
  | [] => []
  | c :: cs => c.sub R σ :: subs R σ cs

def AV.sub (R : List Res) (σ : List Nat) : AV → AV
  | .c x => .c (x.sub R σ)
  | .agg xs => .agg (AC.sub.subs R σ xs)
  | .tup _ => .any
  | .any => .any

theorem AR.sub {W : Wit} {R : List Res} {w : World} {σ : List Nat} (hs : Sep w W R) (ho : okσ 0 R σ = true) {cs : List AC} {vs : List Value} (h : AR W R w cs vs) : AR (W.ren 0 σ) (reR 0 σ R) w (AC.sub.subs R σ cs) vs := by
  have one : ∀ {c : AC} {v : Value}, AR W R w [c] [v] → AR (W.ren 0 σ) (reR 0 σ R) w [c.ren 0 σ] [v] := fun h => by
    have := h.ren (n := 0) (σ := σ) (Nat.zero_le _) ho
    simpa [AC.ren.rens] using this
  have key : ∀ {i : Nat}, ix σ i = none → ∀ b, W.fs i b → ∀ q, ¬ (W.ren 0 σ).fs q b := fun {i} hi b hb q hq => by
    obtain ⟨p, h1, _, h3⟩ := Wit.ren_sub q b hq
    have e := hs.apart i p b hb h1
    subst e
    have := h3 (by omega)
    rw [show q - 0 = q by omega] at this
    exact ix_none hi (List.mem_of_getElem? this)
  induction h with
  | nil => exact .nil
  | sc h1 _ ih => exact .sc h1 ih
  | any h1 _ ih => exact .any h1 ih
  | ro h1 _ ih => exact AR.cons_mk (one (AR.ro h1 .nil)) ih
  | rp b o inner h1 h2 h3 h4 _ ih => exact AR.cons_mk (one (AR.rp b o inner h1 h2 h3 h4 .nil)) ih
  | fn _ _ ih1 ih2 => exact .fn ih1 ih2
  | @sl i off len tot v cs vs h1 h2 h3 _ ih =>
    have h0 := one (AR.sl (off := off) (len := len) (tot := tot) h1 h2 h3 .nil)
    simp only [AC.sub.subs, AC.sub]
    simp only [AC.ren, Nat.not_lt_zero, if_false] at h0
    cases hq : ix σ i with
    | some q => rw [hq] at h0; simp only [Nat.zero_add] at h0; exact AR.cons_mk h0 ih
    | none =>
      simp only
      split
      · rename_i e k rows hR
        split
        · rename_i ht
          exact AR.cons_mk (AR.ro (sl_rd hs hR ht (by omega) ((h3 _ _ _ hR).2 ht) fun b hb => ⟨hs.lt i b hb, key hq b hb⟩) .nil) ih
        · exact .any h1 ih
      · exact .any h1 ih
  | @bp i off v cs vs h1 h2 h3 _ ih =>
    have h0 := one (AR.bp (off := off) h1 h2 h3 .nil)
    simp only [AC.sub.subs, AC.sub]
    simp only [AC.ren, Nat.not_lt_zero, if_false] at h0
    cases hq : ix σ i with
    | some q => rw [hq] at h0; simp only [Nat.zero_add] at h0; exact AR.cons_mk h0 ih
    | none => exact .any h1 ih
  | @ep i j off tot v cs vs h1 h2 h3 _ ih =>
    have h0 := one (AR.ep (j := j) (off := off) (tot := tot) h1 h2 h3 .nil)
    simp only [AC.sub.subs, AC.sub]
    simp only [AC.ren, Nat.not_lt_zero, if_false] at h0
    cases hq : ix σ i with
    | some q => rw [hq] at h0; simp only [Nat.zero_add] at h0; exact AR.cons_mk h0 ih
    | none => exact .any h1 ih
where
  ix_none : ∀ {σ : List Nat} {i : Nat}, ix σ i = none → ¬ i ∈ σ
    | [], i, _, h => by simp at h
    | j :: l, i, h, hm => by
      unfold ix at h
      split at h
      · cases h
      · rename_i hne
        rcases List.mem_cons.1 hm with hm | hm
        · exact hne hm
        · exact ix_none (by simpa using h) hm

theorem AVR.sub {W : Wit} {R : List Res} {w : World} {σ : List Nat} (hs : Sep w W R) (ho : okσ 0 R σ = true) {x : AV} {v : Value} (h : AVR W R w x v) : AVR (W.ren 0 σ) (reR 0 σ R) w (x.sub R σ) v := by
  cases x with
  | c x => exact AR.sub hs ho (show AR W R w [x] [v] from h)
  | agg xs =>
    obtain ⟨vs, e, h⟩ := h
    exact ⟨vs, e, h.sub hs ho⟩
  | tup xs => trivial
  | any => trivial

end Go.Proofs.Ythlhmpknngidmaa.E

namespace Go.Proofs.Ythlhmpknngidmaa.E
open Go Go.RowKit
set_option linter.unusedVariables false
set_option linter.unusedSimpArgs false

def un (n : Nat) (σ : List Nat) (q : Nat) : Nat := match σ[q]? with | some i => i | none => n + (q - σ.length)

def AC.un (n : Nat) (σ : List Nat) : AC → AC
  | .sl q off len tot => .sl (E.un n σ q) off len tot
  | .bp q off => .bp (E.un n σ q) off
  | .ep q j off tot => .ep (E.un n σ q) j off tot
  | .fn f caps => .fn f (uns n σ caps)
  | c => c
where uns (n : Nat) (σ : List Nat) : List AC → List AC
  | [] => []
  | c :: cs => c.un n σ :: uns n σ cs

def AV.un (n : Nat) (σ : List Nat) : AV → AV
  | .c x => .c (x.un n σ)
  | .agg xs => .agg (AC.un.uns n σ xs)
  | .tup xs => .tup (xs.map fun x => (x.1, AC.un.uns n σ x.2))
  | .any => .any

def Res.un (n : Nat) (σ : List Nat) : Res → Res
  | .box cs => .box (AC.un.uns n σ cs)
  | .pin x u => .pin (x.un n σ) u
  | r => r

def backR (n : Nat) (σ : List Nat) (S : List Res) : Nat → List Res → List Res
  | _, [] => []
  | i, r :: R => (match ix σ i with | some q => ((S[q]?).getD .gone).un n σ | none => r) :: backR n σ S (i + 1) R

def back (σ : List Nat) (R S : List Res) : List Res := backR R.length σ S 0 R ++ (S.drop σ.length).map (Res.un R.length σ)

theorem backR_len (n : Nat) (σ : List Nat) (S : List Res) : ∀ (R : List Res) (i : Nat), (backR n σ S i R).length = R.length
  | [], _ => rfl
  | r :: R, i => by simp [backR, backR_len n σ S R (i + 1)]

theorem backR_at (n : Nat) (σ : List Nat) (S : List Res) : ∀ (R : List Res) (i j : Nat), j < R.length → (backR n σ S i R)[j]? = (match ix σ (i + j) with | some q => some (((S[q]?).getD .gone).un n σ) | none => R[j]?)
  | r :: R, i, 0, _ => by
    simp only [backR, Nat.add_zero, List.getElem?_cons_zero]
    cases ix σ i <;> rfl
  | r :: R, i, j + 1, h => by
    simp only [backR, List.getElem?_cons_succ]
    rw [backR_at n σ S R (i + 1) j (by simpa using h), show i + 1 + j = i + (j + 1) by omega]

theorem back_old {σ : List Nat} {R S : List Res} {j : Nat} (h : j < R.length) : (back σ R S)[j]? = (match ix σ j with | some q => some (((S[q]?).getD .gone).un R.length σ) | none => R[j]?) := by
  unfold back
  rw [List.getElem?_append_left (by rw [backR_len]; exact h), backR_at _ _ _ _ _ _ h, Nat.zero_add]

theorem back_new {σ : List Nat} {R S : List Res} (j : Nat) : (back σ R S)[R.length + j]? = (S[σ.length + j]?).map (Res.un R.length σ) := by
  unfold back
  rw [List.getElem?_append_right (by rw [backR_len]; omega), backR_len, show R.length + j - R.length = j by omega, List.getElem?_map, List.getElem?_drop]

theorem ix_of {σ : List Nat} (hd : σ.Nodup) {i q : Nat} (h : σ[q]? = some i) : ix σ i = some q := by
  cases hx : ix σ i with
  | none => exact absurd (List.mem_of_getElem? h) (AR.sub.ix_none hx)
  | some p => rw [nodup_inj hd (ix_get hx) h]

def Wit.back (W V : Wit) (n : Nat) (σ : List Nat) : Wit :=
  ⟨fun i => if i < n then (match ix σ i with | some q => V.hs q | none => W.hs i) else V.hs (σ.length + (i - n)),
   fun i b => if i < n then (match ix σ i with | some q => V.fs q b | none => W.fs i b) else V.fs (σ.length + (i - n)) b⟩

theorem Res.un_row {r : Res} {n e k : Nat} {σ : List Nat} {rows : List (List T)} (h : Res.row e k rows = r.un n σ) : r = .row e k rows := by cases r <;> first | exact h.symm | cases h
theorem Res.un_box {r : Res} {n : Nat} {σ : List Nat} {xs : List AC} (h : Res.box xs = r.un n σ) : ∃ ys, r = .box ys ∧ xs = AC.un.uns n σ ys := by
  cases r with
  | box ys => exact ⟨ys, rfl, by cases h; rfl⟩
  | row e k rows => cases h
  | gone => cases h
  | pin x u => cases h
section
variable {w : World} {W V : Wit} {R S : List Res} {σ : List Nat}

/-- What is known of a resource of the callee's, where it now stands. -/
theorem un_at (hd : σ.Nodup) (hlt : ∀ i ∈ σ, i < R.length) {q : Nat} (hq : q < S.length) :
    (back σ R S)[E.un R.length σ q]? = some ((S[q]).un R.length σ) ∧ (W.back V R.length σ).hs (E.un R.length σ q) = V.hs q ∧ (∀ b, (W.back V R.length σ).fs (E.un R.length σ q) b ↔ V.fs q b) ∧ E.un R.length σ q < (back σ R S).length := by
  have key : (back σ R S)[E.un R.length σ q]? = some ((S[q]).un R.length σ) ∧ (W.back V R.length σ).hs (E.un R.length σ q) = V.hs q ∧ (∀ b, (W.back V R.length σ).fs (E.un R.length σ q) b ↔ V.fs q b) := by
    unfold E.un
    cases hs : σ[q]? with
    | some i =>
      have hi := hlt i (List.mem_of_getElem? hs)
      have hx := ix_of hd hs
      simp only
      rw [back_old hi, hx]
      simp only [List.getElem?_eq_getElem hq, Option.getD_some, Wit.back, hi, if_true, hx, true_and]
      exact fun _ => trivial
    | none =>
      have hm : σ.length ≤ q := List.getElem?_eq_none_iff.1 hs
      simp only
      rw [back_new, show σ.length + (q - σ.length) = q by omega, List.getElem?_eq_getElem hq]
      refine ⟨rfl, ?_, fun b => ?_⟩
      · simp only [Wit.back, show ¬ R.length + (q - σ.length) < R.length by omega, if_false]
        rw [show σ.length + (R.length + (q - σ.length) - R.length) = q by omega]
      · simp only [Wit.back, show ¬ R.length + (q - σ.length) < R.length by omega, if_false]
        rw [show σ.length + (R.length + (q - σ.length) - R.length) = q by omega]
  refine ⟨key.1, key.2.1, key.2.2, ?_⟩
  rcases Nat.lt_or_ge (E.un R.length σ q) (back σ R S).length with h | h
  · exact h
  · have := key.1; rw [List.getElem?_eq_none h] at this; cases this

theorem AR.un (hd : σ.Nodup) (hlt : ∀ i ∈ σ, i < R.length) (hl : σ.length ≤ S.length) {cs : List AC} {vs : List Value} (h : AR V S w cs vs) : AC.own.owns cs = true → AR (W.back V R.length σ) (back σ R S) w (AC.un.uns R.length σ cs) vs := by
  induction h with
  | nil => intro _; exact .nil
  | sc h1 _ ih => intro ho; exact .sc h1 (ih (by simpa [AC.own.owns, AC.own] using ho))
  | any h1 _ ih => intro ho; exact .any h1 (ih (by simpa [AC.own.owns, AC.own] using ho))
  | ro h1 _ ih => intro ho; simp [AC.own.owns, AC.own] at ho
  | rp b o inner h1 h2 h3 h4 _ ih => intro ho; simp [AC.own.owns, AC.own] at ho
  | fn _ _ ih1 ih2 =>
    intro ho
    simp only [AC.own.owns, AC.own, Bool.and_eq_true] at ho
    exact .fn (ih1 ho.1) (ih2 ho.2)
  | sl h1 h2 h3 _ ih =>
    intro ho
    obtain ⟨u1, u2, _, u4⟩ := un_at (W := W) (V := V) hd hlt h2
    refine .sl h1 u4 (fun e k rows hr => ?_) (ih (by simpa [AC.own.owns, AC.own] using ho))
    rw [u1] at hr
    rw [u2]
    exact h3 e k rows (by rw [List.getElem?_eq_getElem h2, Res.un_row (Option.some.inj hr).symm])
  | ep h1 h2 h3 _ ih =>
    intro ho
    obtain ⟨u1, u2, _, u4⟩ := un_at (W := W) (V := V) hd hlt h2
    refine .ep h1 u4 (fun e k rows hr => ?_) (ih (by simpa [AC.own.owns, AC.own] using ho))
    rw [u1] at hr
    rw [u2]
    exact h3 e k rows (by rw [List.getElem?_eq_getElem h2, Res.un_row (Option.some.inj hr).symm])
  | bp h1 h2 h3 _ ih =>
    intro ho
    obtain ⟨u1, u2, _, u4⟩ := un_at (W := W) (V := V) hd hlt h2
    refine .bp h1 u4 (fun xs hr => ?_) (ih (by simpa [AC.own.owns, AC.own] using ho))
    rw [u1] at hr
    obtain ⟨ys, e, _⟩ := Res.un_box (Option.some.inj hr).symm
    rw [u2]
    exact h3 ys (by rw [List.getElem?_eq_getElem h2, e])

theorem AVR.un (hd : σ.Nodup) (hlt : ∀ i ∈ σ, i < R.length) (hl : σ.length ≤ S.length) {x : AV} {v : Value} (h : AVR V S w x v) (ho : x.own = true) : AVR (W.back V R.length σ) (back σ R S) w (x.un R.length σ) v := by
  cases x with
  | c x => exact AR.un hd hlt hl (show AR V S w [x] [v] from h) (by simpa [AC.own.owns, AV.own] using ho)
  | agg xs =>
    obtain ⟨vs, e, h⟩ := h
    exact ⟨vs, e, h.un hd hlt hl ho⟩
  | tup xs =>
    obtain ⟨us, e, hl', h⟩ := h
    refine ⟨us, e, by simp [hl'], fun i y u h1 h2 => ?_⟩
    rw [List.getElem?_map] at h1
    cases hy : xs[i]? with
    | none => rw [hy] at h1; cases h1
    | some z =>
      rw [hy] at h1
      obtain rfl := Option.some.inj h1
      obtain ⟨vs, e1, e2⟩ := h i z u hy h2
      have hz : AC.own.owns z.2 = true := by
        simp only [AV.own, List.all_eq_true] at ho
        exact ho z (List.mem_of_getElem? hy)
      exact ⟨vs, e1, e2.un hd hlt hl hz⟩
  | any => trivial
end

end Go.Proofs.Ythlhmpknngidmaa.E

namespace Go.Proofs.Ythlhmpknngidmaa.E
open Go Go.RowKit
set_option linter.unusedVariables false
set_option linter.unusedSimpArgs false

def GCode (P : Program) (N n : Nat) (c : Code) (s : Slots) (R : List Res) (Q : Exit → Slots → List Res → Prop) : Prop :=
  ∀ w0 W0 R0, R0.length = n → ∀ a w W, Now N s R a w W → Trans w0 W0 R0 w W R → c.wp P (fun ex a' w' => Reach N w0 W0 R0 (Q ex) a' w') a w

def renS (n : Nat) (σ : List Nat) : Slots → Slots
  | [] => []
  | (d, v) :: s => (d, v.ren n σ) :: renS n σ s

theorem get_renS (n : Nat) (σ : List Nat) (t : Nat) : ∀ s : Slots, get (renS n σ s) t = (get s t).ren n σ
  | [] => rfl
  | (d, v) :: s => by
    simp only [renS, E.get]
    split
    · rfl
    · exact get_renS n σ t s

section
variable {P : Program} {N n : Nat} {s : Slots} {R : List Res} {Q : Exit → Slots → List Res → Prop}

theorem E_G {c : Code} (hn : R.length = n) (h : GCode P N n c s R Q) : ECode P N c s R Q := fun a w W hw => h w W R hn a w W hw (.refl ..)
theorem G_E {c : Code} (h : ECode P N c s R Q) : GCode P N n c s R Q := fun w0 W0 R0 _ a w W hn ht => wp_mono (h a w W hn) fun e a' w' hr => hr.after ht

theorem GCode.mono {c : Code} {Q' : Exit → Slots → List Res → Prop} (h : GCode P N n c s R Q) (hq : ∀ e s R, Q e s R → Q' e s R) : GCode P N n c s R Q' :=
  fun w0 W0 R0 h0 a w W hn ht => wp_mono (h w0 W0 R0 h0 a w W hn ht) fun e a' w' hr => hr.mono (hq e)

theorem GCode.sub {c : Code} {L : Slots} (hs : Sub L s) (h : GCode P N n c L R Q) : GCode P N n c s R Q :=
  fun w0 W0 R0 h0 a w W hn ht => h w0 W0 R0 h0 a w W (hn.sub hs) ht

theorem G_seq {x y : Code} (h : GCode P N n x s R (EThen (fun s' R' => GCode P N n y s' R' Q) Q)) : GCode P N n (.seq x y) s R Q := by
  intro w0 W0 R0 h0 a w W hn ht
  refine wp_seq (wp_mono (h w0 W0 R0 h0 a w W hn ht) fun e a1 w1 hr => ?_)
  cases e with
  | normal =>
    obtain ⟨s1, R1, W1, h1, h2, h3⟩ := hr
    exact h1 w0 W0 R0 h0 a1 w1 W1 h2 h3
  | exit id => exact hr
  | goto l => exact hr
  | ret => exact hr
  | panic ch => exact hr
  | outgrown => exact hr

theorem G_skip (h : Q .normal s R) : GCode P N n .skip s R Q := G_E (E_skip h)
theorem G_exit {id : Nat} (h : Q (.exit id) s R) : GCode P N n (.exit id) s R Q := G_E (E_exit h)
theorem G_ret (h : Q .ret s R) : GCode P N n .ret s R Q := G_E (E_ret h)

theorem G_cond {t : Nat} {b : Bool} {x y : Code} (hb : get s t = .c (.sc (.bool b))) (h1 : b = true → GCode P N n x s R Q) (h2 : b = false → GCode P N n y s R Q) : GCode P N n (.cond (.tmp t) x y) s R Q := by
  intro w0 W0 R0 h0 a w W hn ht
  have hv := hn.val t
  rw [hb] at hv
  have he : a.eval (.tmp t) = .bool b := AR.sc_inv hv
  exact wp_cond_split he (fun h => h1 h w0 W0 R0 h0 a w W hn ht) (fun h => h2 h w0 W0 R0 h0 a w W hn ht)

theorem G_block {id : Nat} {c : Code} (h : GCode P N n c s R (EBlock id Q)) : GCode P N n (.block id c) s R Q := by
  intro w0 W0 R0 h0 a w W hn ht
  refine wp_block (wp_mono (h w0 W0 R0 h0 a w W hn ht) fun e a' w' hr => ?_)
  cases e with
  | exit id' =>
    simp only [Exit.inBlock, EBlock] at hr ⊢
    split at hr <;> simp_all
  | normal => exact hr
  | goto l => exact hr
  | ret => exact hr
  | panic ch => exact hr
  | outgrown => exact hr

theorem G_loop {c : Code} (I : Nat → Slots → List Res → Prop) (n0 : Nat) (h0 : I n0 s R)
    (round : ∀ m s R, I m s R → GCode P N n c s R (EThen (fun s' R' => ∃ m', m' < m ∧ I m' s' R') Q)) : GCode P N n (.loop c) s R Q := by
  intro w0 W0 R0 hl a w W hn ht
  intro b k cs
  have key : ∀ m a1 w1, (∃ s1 R1 W1, I m s1 R1 ∧ Now N s1 R1 a1 w1 W1 ∧ Trans w0 W0 R0 w1 W1 R1) →
      ∃ e a' w', Reach N w0 W0 R0 (Q e) a' w' ∧ Arrives P (lone (b.at a1 (.code c :: .inLoop c :: k)) cs w1) b k cs e a' w' := by
    intro m
    induction m using Nat.strongRecOn with
    | _ m ih =>
      rintro a1 w1 ⟨s1, R1, W1, hI, hn1, ht1⟩
      obtain ⟨e, a2, w2, hq, harr⟩ := round m s1 R1 hI w0 W0 R0 hl a1 w1 W1 hn1 ht1 b (.inLoop c :: k) cs
      cases e with
      | normal =>
        obtain ⟨s2, R2, W2, ⟨m', hm, hI2⟩, hn2, ht2⟩ := hq
        obtain ⟨e3, a3, w3, hq3, harr3⟩ := ih m' hm a2 w2 ⟨s2, R2, W2, hI2, hn2, ht2⟩
        exact ⟨e3, a3, w3, hq3, .of_steps (Steps.trans harr (.one step_inLoop)) harr3⟩
      | exit id => exact ⟨_, a2, w2, hq, .pass (x := .inLoop c) rfl (fun _ _ => .inl (by simp)) harr⟩
      | goto l => exact ⟨_, a2, w2, hq, .pass (x := .inLoop c) rfl (fun _ _ => .inl (by simp)) harr⟩
      | ret => exact ⟨_, a2, w2, hq, .pass (x := .inLoop c) rfl (fun _ _ => .inl (by simp)) harr⟩
      | panic ch => exact ⟨_, a2, w2, hq, .pass (x := .inLoop c) rfl (fun _ _ => .inl (by simp)) harr⟩
      | outgrown => exact ⟨_, a2, w2, hq, .pass (x := .inLoop c) rfl (fun _ _ => .inl (by simp)) harr⟩
  obtain ⟨e, a', w', hq, harr⟩ := key n0 a w ⟨s, R, W, h0, hn, ht⟩
  exact ⟨e, a', w', hq, .of_steps (.one step_loop) harr⟩

/-- What is told anew: fewer resources, in another order. -/
theorem Now.gc {w0 : World} {W0 : Wit} {R0 : List Res} {σ : List Nat} {a : Act} {w : World} {W : Wit} (h : Now N s R a w W) (ht : Trans w0 W0 R0 w W R) (hl : R0.length = n) (ho : okσ n R σ = true) :
    Now N (renS n σ s) (reR n σ R) a w (W.ren n σ) ∧ Trans w0 W0 R0 w (W.ren n σ) (reR n σ R) := by
  have hn : n ≤ R.length := hl ▸ ht.len
  exact ⟨⟨h.size, h.defers, fun t => by rw [get_renS]; exact (h.val t).ren hn ho, h.sep.ren hn ho⟩, ht.ren hl ho⟩

theorem G_tidy {c : Code} (keep : List Nat) {base : Slots} {R' : List Res} (hb : keepOf s keep = base) (hR : R = R') (h : GCode P N n c base R' Q) : GCode P N n c s R Q := by
  subst hR
  subst hb
  exact GCode.sub (keep_sub s keep).sub h

/-- A loop: x says where it stands; what it turns is told by mods, what it keeps stands in base. -/
theorem G_for {α : Type} {c : Code} (keep : List Nat) (mods : α → Slots) (Rf : α → List Res) (I : α → Prop) (m : α → Nat) (x0 : α) {base : Slots} (hb : keepOf s keep = base) (h0 : I x0) (hR : R = Rf x0) (h1 : chk s (mods x0))
    (round : ∀ x, I x → GCode P N n c (mods x ++ base) (Rf x) (EThen (fun s' R' => ∃ y, m y < m x ∧ I y ∧ R' = Rf y ∧ chk s' (mods y) ∧ chk s' base) Q)) : GCode P N n (.loop c) s R Q := by
  refine G_loop (fun n s' R' => ∃ x, n = m x ∧ I x ∧ R' = Rf x ∧ chk s' (mods x) ∧ chk s' base) (m x0) ⟨x0, rfl, h0, hR, h1, by rw [← hb]; exact keep_sub s keep⟩ ?_
  rintro n s' R' ⟨x, rfl, hI, rfl, k1, k2⟩
  refine GCode.sub (Sub.app k1 k2.sub) ((round x hI).mono ?_)
  intro e s2 R2 h
  cases e with
  | normal =>
    obtain ⟨y, g1, g2⟩ := h
    exact ⟨m y, g1, y, rfl, g2⟩
  | exit id => exact h
  | goto l => exact h
  | ret => exact h
  | panic ch => exact h
  | outgrown => exact h

theorem Reach.gc {w0 : World} {W0 : Wit} {R0 : List Res} {K : Slots → List Res → Prop} {a : Act} {w : World} (hl : R0.length = n) (h : Reach N w0 W0 R0 (fun s' R' => ∃ σ, okσ n R' σ = true ∧ K (renS n σ s') (reR n σ R')) a w) : Reach N w0 W0 R0 K a w := by
  obtain ⟨s', R', W', ⟨σ, h1, h2⟩, h3, h4⟩ := h
  obtain ⟨k1, k2⟩ := h3.gc h4 hl h1
  exact ⟨_, _, _, h2, k1, k2⟩

/-- A loop whose rounds leave resources behind that are then forgotten. -/
theorem G_forD {α : Type} {c : Code} (keep : List Nat) (mods : α → Slots) (Rf : α → List Res) (I : α → Prop) (m : α → Nat) (x0 : α) {base : Slots} (hb : keepOf s keep = base) (h0 : I x0) (hR : R = Rf x0) (h1 : chk s (mods x0))
    (round : ∀ x, I x → GCode P N n c (mods x ++ base) (Rf x) (EThen (fun s' R' => ∃ σ, okσ n R' σ = true ∧ ∃ y, m y < m x ∧ I y ∧ reR n σ R' = Rf y ∧ chk (renS n σ s') (mods y) ∧ chk (renS n σ s') base) Q)) : GCode P N n (.loop c) s R Q := by
  refine G_for keep mods Rf I m x0 hb h0 hR h1 fun x hx => ?_
  intro w0 W0 R0 hl a w W hn ht
  refine wp_mono (round x hx w0 W0 R0 hl a w W hn ht) fun e a' w' hr => ?_
  cases e with
  | normal => exact Reach.gc hl hr
  | exit id => exact hr
  | goto l => exact hr
  | ret => exact hr
  | panic ch => exact hr
  | outgrown => exact hr

theorem G_region' {id : Nat} {ops : Array Oper} {L : List Nat} (hL : List.range ops.size = L) (h : EOps P N ops L s R (Q .normal)) : GCode P N n (.region id ops false) s R Q := G_E (E_region' hL h)

end

end Go.Proofs.Ythlhmpknngidmaa.E

namespace Go.Proofs.Ythlhmpknngidmaa.E
open Go Go.RowKit
set_option linter.unusedVariables false
set_option linter.unusedSimpArgs false

section
variable {P : Program} {N : Nat} {s : Slots} {R : List Res} {o : Oper} {t e k : Nat} {b : Bool} {x : Operand} {lo hi : Option Operand} {l h : Int}

/-- A part of what is read. -/
theorem Rd.cut {w : World} {O : Nat → Prop} {rows : List (List T)} {v : Value} {l h k : Nat} (hr : Rd w O [.sl rows] [v]) (h1 : l ≤ h) (h2 : h ≤ rows.length) (hk : ∀ r ∈ rows, r.length = k) :
    ∃ ad c, v = .slice ad rows.length c ∧ rows.length ≤ c ∧ Rd w O [.sl ((rows.drop l).take (h - l))] [sliced ad l h c k] := by
  cases hr with
  | @sl _ ad c inner _ _ k0 g1 g2 g3 g4 g5 _ =>
    refine ⟨ad, c, rfl, g1.1, ?_⟩
    have hlen : ((rows.drop l).take (h - l)).length = h - l := by rw [List.length_take, List.length_drop]; omega
    have key := Rd.sl (w := w) (O := O) (rows := (rows.drop l).take (h - l)) (a := if c = l then ad else ad.map (·.add (l * k))) (c := c - l) (inner := (inner.drop (l * k0)).take ((h - l) * k0)) (ts := []) (vs := []) k0 ⟨by omega, by have := g1.2; omega⟩ g2
      (fun r hr => g3 r (List.mem_of_mem_drop (List.mem_of_mem_take hr)))
      (fun hp => by
        have hne : rows ≠ [] := by intro e; subst e; simp at hp
        obtain ⟨r, rs, rfl⟩ := List.exists_cons_of_ne_nil hne
        obtain rfl : k = k0 := by rw [← hk r (List.mem_cons_self ..), g3 r (List.mem_cons_self ..)]
        obtain ⟨b, o, e, hb, hc⟩ := g4 (by simp)
        have hcl : ¬ c = l := by have := g1.1; simp only [hlen] at hp; omega
        refine ⟨b, o + l * k, by rw [if_neg hcl, e]; simp [add_plain], hb, fun j u hj => ?_⟩
        rw [List.getElem?_take] at hj
        split at hj
        · rw [List.getElem?_drop] at hj
          have := hc _ u hj
          rwa [Nat.add_assoc]
        · cases hj)
      (by rw [flatten_sub g3]; exact (g5.drop _).take _) .nil
    rw [hlen] at key
    exact key

end

theorem Pure.as {P : Program} {o : Oper} {s : Slots} {R : List Res} {y y' : AV} (h : Pure P o s R y) (e : y = y') : Pure P o s R y' := e ▸ h
end Go.Proofs.Ythlhmpknngidmaa.E

namespace Go.Proofs.Ythlhmpknngidmaa.E
open Go Go.RowKit
set_option linter.unusedVariables false
set_option linter.unusedSimpArgs false

/-- What of a value can be told of the world before. -/
def back1 : AV → AV
  | .c (.sc v) => .c (.sc v)
  | .tup [] => .tup []
  | _ => .any

theorem back1_rel {W W1 : Wit} {R R1 : List Res} {w w1 : World} {y : AV} {v : Value} (h : AVR W R w y v) : AVR W1 R1 w1 (back1 y) v := by
  unfold back1
  split
  · have h' : AR W R w [.sc _] [v] := h
    obtain rfl := AR.sc_inv h'
    cases h' with
    | sc h1 _ => exact AR.sc1 h1
  · obtain ⟨us, e, hl, _⟩ := h
    obtain rfl : us = [] := List.length_eq_zero_iff.1 hl
    exact ⟨[], e, rfl, fun i x u h => by simp at h⟩
  · exact AVR.any ..

/-! ### Whatever order is picked; the condition on the world may change behind an operation before or behind which all others have to come -/
section
variable {P : Program} {md : Region.Mode} {ops : Array Oper} {Q : Exit → Act → World → Prop}

/-- What has come up has all before it that has to be. -/
def Closed (md : Region.Mode) (ops : Array Oper) (listed : Array Bool) : Prop :=
  ∀ k o, ops[k]? = some o → listed.getD k false = true → ∀ e ∈ o.after, Region.binds md e = true → listed.getD e.on false = true

theorem Closed.start (md : Region.Mode) (ops : Array Oper) (n : Nat) : Closed md ops (Array.replicate n false) := fun k o _ h => by
  simp only [Array.getD_eq_getD_getElem?, Array.getElem?_replicate] at h
  split at h <;> simp at h

theorem getD_set_back {listed : Array Bool} {i k : Nat} (h : (listed.setIfInBounds i true).getD k false = true) : k = i ∨ listed.getD k false = true := by
  by_cases hk : i = k
  · exact .inl hk.symm
  · refine .inr ?_
    simpa [Array.getD_eq_getD_getElem?, Array.getElem?_setIfInBounds_ne hk] using h

theorem Closed.step {listed : Array Bool} {i : Nat} (h : Closed md ops listed) (hi : i ∈ Region.ready md ops listed) : Closed md ops (listed.setIfInBounds i true) := fun k o ho hk e he hb => by
  rcases getD_set_back hk with rfl | hk
  · obtain ⟨_, o', ho', hall⟩ := mem_ready.1 hi
    obtain rfl : o' = o := by rw [ho] at ho'; exact (Option.some.inj ho').symm
    exact getD_set_true (hall e he hb)
  · exact getD_set_true (h k o ho hk e he hb)

/-- Copies: what they yield hangs on no memory; and what makes a variable. -/
def isMv (o : Oper) : Bool := match o.op with | .move _ => true | .assign _ => true | .extract _ _ => true | .build _ _ => true | .fieldAddr _ _ _ => true | .indexAddr _ _ _ => true | .pick _ _ _ => true | .binOp _ _ _ _ _ => true | .unOp _ _ _ => true | .makeFunc _ _ _ => true | .alloc _ => true | _ => false

def Dom (md : Region.Mode) (ops : Array Oper) (j : Nat) : Prop := ∀ listed, Closed md ops listed → j ∈ Region.ready md ops listed → ∀ i ∈ Region.ready md ops listed, i = j ∨ ∃ o, ops[i]? = some o ∧ isMv o = true

/-- Who has to come before j. -/
def befores (md : Region.Mode) (ops : Array Oper) : Nat → List Nat → List Nat
  | 0, l => l
  | k + 1, l => befores md ops k (if l.contains k then l ++ (match ops[k]? with | some o => (o.after.toList.filter (Region.binds md)).map (·.on) | none => []) else l)

theorem befores_listed {listed : Array Bool} {j : Nat} (hc : Closed md ops listed) (hj : j ∈ Region.ready md ops listed) : ∀ (n : Nat) (l : List Nat), (∀ m ∈ l, m = j ∨ listed.getD m false = true) → ∀ m ∈ befores md ops n l, m = j ∨ listed.getD m false = true
  | 0, l, h => h
  | k + 1, l, h => by
    refine befores_listed hc hj k _ ?_
    split
    · rename_i hk
      have hk' : k ∈ l := by simpa using hk
      intro m hm
      rcases List.mem_append.1 hm with hm | hm
      · exact h m hm
      · cases ho : ops[k]? with
        | none => rw [ho] at hm; simp at hm
        | some o =>
          rw [ho] at hm
          simp only [List.mem_map, List.mem_filter] at hm
          obtain ⟨e, ⟨he, hb⟩, rfl⟩ := hm
          have he' : e ∈ o.after := by simpa using he
          refine .inr ?_
          rcases h k hk' with rfl | hl
          · obtain ⟨_, o', ho', hall⟩ := mem_ready.1 hj
            obtain rfl : o' = o := by rw [ho] at ho'; exact (Option.some.inj ho').symm
            exact hall e he' hb
          · exact hc k o ho hl e he' hb
    · exact h

theorem ready_out {listed : Array Bool} {i : Nat} (hi : i ∈ Region.ready md ops listed) : listed.getD i false = false := by
  obtain ⟨h, _⟩ := mem_ready.1 hi
  simp only [Array.getD_eq_getD_getElem?] at h ⊢
  cases hx : listed[i]? with
  | none => rfl
  | some x => rw [hx] at h; exact h

def wpAnyJ (P : Program) (md : Region.Mode) (ops : Array Oper) (Q : Exit → Act → World → Prop) : Nat → (World → Prop) → Array Bool → Act → World → Prop
  | 0, _, listed, a, w => Region.ready md ops listed = [] ∧ Q .normal a w
  | fuel + 1, S, listed, a, w =>
    (Region.ready md ops listed = [] → Q .normal a w) ∧
    ∀ i ∈ Region.ready md ops listed, wpOp P ops Q i (fun a' w' => (S w' ∧ wpAnyJ P md ops Q fuel S (listed.setIfInBounds i true) a' w') ∨ (Dom md ops i ∧ ∃ S' : World → Prop, S' w' ∧ wpAnyJ P md ops Q fuel S' (listed.setIfInBounds i true) a' w')) a w

theorem wpAny_of_J : ∀ (fuel : Nat) (S : World → Prop) (listed : Array Bool) (a : Act) (w : World), wpAnyJ P md ops Q fuel S listed a w → wpAny P md ops Q fuel listed a w
  | 0, _, _, _, _, h => h
  | fuel + 1, _, _, _, _, h => ⟨h.1, fun i hi => wpOp_mono (fun a' w' h' => by
      rcases h' with h' | ⟨_, S', _, h'⟩
      · exact wpAny_of_J fuel _ _ a' w' h'.2
      · exact wpAny_of_J fuel _ _ a' w' h') (h.2 i hi)⟩

theorem wpAnyJ_first {S : World → Prop} {i : Nat} {oi : Oper} {v : Value} (hi : ops[i]? = some oi) (hsel : ∀ (j : Nat) (o : Oper) cs b, ops[j]? = some o → o.op ≠ .select cs b)
    (hnm : isMv oi = false) (hQ : ∀ c a w, Q (.panic c) (a.put oi.dst v) w → Q (.panic c) a w) :
    ∀ (fuel : Nat) (listed : Array Bool) (a : Act) (w : World), Closed md ops listed →
      (∀ j oj, ops[j]? = some oj → j ≠ i → listed.getD j true = false → (∀ e ∈ oj.after, Region.binds md e = true → e.on ≠ i) → oi.apart ops oj = true) →
      i ∈ Region.ready md ops listed → YieldsIf P ops S oi v a → S w →
      wpAnyJ P md ops Q fuel S (listed.setIfInBounds i true) (a.put oi.dst v) w → wpAnyJ P md ops Q (fuel + 1) S listed a w := by
  intro fuel
  induction fuel with
  | zero =>
    intro listed a w hc _ hr hy hS H
    refine ⟨fun h => (by rw [h] at hr; cases hr), fun j hj => ?_⟩
    by_cases hji : j = i
    · subst hji; exact hy.wpOp hi hS (.inl ⟨hS, H⟩)
    · have := ready_mono hj hji
      rw [H.1] at this
      cases this
  | succ fuel ih =>
    intro listed a w hc hfree hr hy hS H
    refine ⟨fun h => (by rw [h] at hr; cases hr), fun j hj => ?_⟩
    by_cases hji : j = i
    · subst hji; exact hy.wpOp hi hS (.inl ⟨hS, H⟩)
    · have h1 := H.2 j (ready_mono hj hji)
      obtain ⟨hjun, oj, hoj, hall⟩ := mem_ready.1 hj
      have hnot : ∀ e ∈ oj.after, Region.binds md e = true → e.on ≠ i := fun e he hb heq => by
        have h1 := hall e he hb
        rw [heq, ready_out hr] at h1
        cases h1
      have h2 := wpOp_putIf hoj (hfree j oj hoj hji hjun hnot) (fun cs b => hsel i oi cs b hi) (fun cs b => hsel j oj cs b hoj) hQ hy h1
      have hfree' : ∀ k ok, ops[k]? = some ok → k ≠ i → (listed.setIfInBounds j true).getD k true = false →
          (∀ e ∈ ok.after, Region.binds md e = true → e.on ≠ i) → oi.apart ops ok = true := fun k ok hk hki hun hno => by
        refine hfree k ok hk hki ?_ hno
        by_cases hjk : j = k
        · subst hjk; exact hjun
        · rw [getD_set_ne true hjk] at hun; exact hun
      refine wpOp_mono (fun a' w' h3 => ?_) h2
      obtain ⟨h4, h3⟩ := h3
      rcases h3 with ⟨h5, h6⟩ | ⟨hdom, _⟩
      · refine .inl ⟨h5, ih (listed.setIfInBounds j true) a' w' (hc.step hj) hfree' (ready_mono hr (Ne.symm hji)) h4 h5 ?_⟩
        rw [Array.setIfInBounds_comm _ _ hji]
        exact h6
      · rcases hdom listed hc hj i hr with h | ⟨o, ho, hm⟩
        · exact absurd h.symm hji
        · rw [hi] at ho; cases ho; rw [hnm] at hm; cases hm

theorem wpAnyJ_pure {i : Nat} {oi : Oper} {v : Value} (hi : ops[i]? = some oi) (hsel : ∀ (j : Nat) (o : Oper) cs b, ops[j]? = some o → o.op ≠ .select cs b)
    (hQ : ∀ c a w, Q (.panic c) (a.put oi.dst v) w → Q (.panic c) a w) :
    ∀ (fuel : Nat) (S : World → Prop) (listed : Array Bool) (a : Act) (w : World), Closed md ops listed →
      (∀ j oj, ops[j]? = some oj → j ≠ i → listed.getD j true = false → (∀ e ∈ oj.after, Region.binds md e = true → e.on ≠ i) → oi.apart ops oj = true) →
      i ∈ Region.ready md ops listed → YieldsIf P ops (fun _ => True) oi v a → S w →
      wpAnyJ P md ops Q fuel S (listed.setIfInBounds i true) (a.put oi.dst v) w → wpAnyJ P md ops Q (fuel + 1) S listed a w := by
  intro fuel
  induction fuel with
  | zero =>
    intro S listed a w hc _ hr hy hS H
    refine ⟨fun h => (by rw [h] at hr; cases hr), fun j hj => ?_⟩
    by_cases hji : j = i
    · subst hji; exact hy.wpOp hi trivial (.inl ⟨hS, H⟩)
    · have := ready_mono hj hji
      rw [H.1] at this
      cases this
  | succ fuel ih =>
    intro S listed a w hc hfree hr hy hS H
    refine ⟨fun h => (by rw [h] at hr; cases hr), fun j hj => ?_⟩
    by_cases hji : j = i
    · subst hji; exact hy.wpOp hi trivial (.inl ⟨hS, H⟩)
    · have h1 := H.2 j (ready_mono hj hji)
      obtain ⟨hjun, oj, hoj, hall⟩ := mem_ready.1 hj
      have hnot : ∀ e ∈ oj.after, Region.binds md e = true → e.on ≠ i := fun e he hb heq => by
        have h1 := hall e he hb
        rw [heq, ready_out hr] at h1
        cases h1
      have h2 := wpOp_putIf hoj (hfree j oj hoj hji hjun hnot) (fun cs b => hsel i oi cs b hi) (fun cs b => hsel j oj cs b hoj) hQ hy h1
      have hfree' : ∀ k ok, ops[k]? = some ok → k ≠ i → (listed.setIfInBounds j true).getD k true = false →
          (∀ e ∈ ok.after, Region.binds md e = true → e.on ≠ i) → oi.apart ops ok = true := fun k ok hk hki hun hno => by
        refine hfree k ok hk hki ?_ hno
        by_cases hjk : j = k
        · subst hjk; exact hjun
        · rw [getD_set_ne true hjk] at hun; exact hun
      refine wpOp_mono (fun a' w' h3 => ?_) h2
      obtain ⟨h4, h3⟩ := h3
      rcases h3 with ⟨h5, h6⟩ | ⟨hdom, S', h5, h6⟩
      · refine .inl ⟨h5, ih S (listed.setIfInBounds j true) a' w' (hc.step hj) hfree' (ready_mono hr (Ne.symm hji)) h4 h5 ?_⟩
        rw [Array.setIfInBounds_comm _ _ hji]
        exact h6
      · refine .inr ⟨hdom, S', h5, ih S' (listed.setIfInBounds j true) a' w' (hc.step hj) hfree' (ready_mono hr (Ne.symm hji)) h4 h5 ?_⟩
        rw [Array.setIfInBounds_comm _ _ hji]
        exact h6

theorem wpAnyJ_take0 {S : World → Prop} {i : Nat} {oi : Oper} {v : Value} {fuel : Nat} {listed : Array Bool} {a : Act} {w : World} (hc : Closed md ops listed) (hi : ops[i]? = some oi)
    (hs : Region.noSelect ops = true) (hf : Region.free md ops listed i = true) (hr : (Region.ready md ops listed).contains i = true)
    (hQ : ∀ c a w, Q (.panic c) (a.put oi.dst v) w → Q (.panic c) a w) (hy : YieldsIf P ops (fun _ => True) oi v a) (hS : S w)
    (h : wpAnyJ P md ops Q fuel S (listed.setIfInBounds i true) (a.put oi.dst v) w) : wpAnyJ P md ops Q (fuel + 1) S listed a w :=
  wpAnyJ_pure hi (Region.noSelect_spec hs) hQ fuel S listed a w hc (Region.free_spec hi hf) (by simpa using hr) hy hS h

theorem wpAnyJ_take {S : World → Prop} {i : Nat} {oi : Oper} {v : Value} {fuel : Nat} {listed : Array Bool} {a : Act} {w : World} (hc : Closed md ops listed) (hi : ops[i]? = some oi) (hnm : isMv oi = false)
    (hs : Region.noSelect ops = true) (hf : Region.free md ops listed i = true) (hr : (Region.ready md ops listed).contains i = true)
    (hQ : ∀ c a w, Q (.panic c) (a.put oi.dst v) w → Q (.panic c) a w) (hy : YieldsIf P ops S oi v a) (hS : S w)
    (h : wpAnyJ P md ops Q fuel S (listed.setIfInBounds i true) (a.put oi.dst v) w) : wpAnyJ P md ops Q (fuel + 1) S listed a w :=
  wpAnyJ_first hi (Region.noSelect_spec hs) hnm hQ fuel listed a w hc (Region.free_spec hi hf) (by simpa using hr) hy hS h

theorem wpAnyJ_done {S : World → Prop} {listed : Array Bool} {a : Act} {w : World} (hr : Region.ready md ops listed = []) (h : Q .normal a w) : ∀ fuel, wpAnyJ P md ops Q fuel S listed a w
  | 0 => ⟨hr, h⟩
  | _ + 1 => ⟨fun _ => h, by rw [hr]; simp⟩
end

/-- s1, R1: what is known of the region's beginning; s, R: of now. -/
def EAnyT (P : Program) (N : Nat) (ops : Array Oper) (s1 : Slots) (R1 : List Res) (fuel : Nat) (listed : Array Bool) (s : Slots) (R : List Res) (K : Slots → List Res → Prop) : Prop :=
  ∀ (G : Act → World → Prop) (w1 : World) (W1 : Wit) a w W, Now N s1 R1 a w1 W1 → Trans w1 W1 R1 w W R → Now N s R a w W → Below w1.heap.size w1 w → Closed .any ops listed → (∀ a' w', Reach N w W R K a' w' → G a' w') →
    wpAnyJ P .any ops (fun ex a' w' => ex = .normal ∧ G a' w') fuel (fun w' => Below w1.heap.size w1 w') listed a w

section
variable {P : Program} {N n : Nat} {ops : Array Oper} {s s1 : Slots} {R R1 : List Res} {K : Slots → List Res → Prop} {fuel : Nat} {listed listed' : Array Bool}

theorem E_drawT {id : Nat} {Q : Exit → Slots → List Res → Prop} (hm : P.follows .mixedOrders = true) (h : EAnyT P N ops s R ops.size (Array.replicate ops.size false) s R (Q .normal)) : ECode P N (.region id ops true) s R Q := by
  intro a w W hn
  obtain ⟨h1, h2⟩ := hn.draw
  have := h (fun a' w' => Reach N w W R (Q .normal) a' w') { w with drawn := w.drawn + 1 } W a _ W h1 (.refl ..) h1 (Below.refl _ _) (Closed.start _ _ _) fun a' w' hr => hr.after h2
  refine wp_mono (wp_region_any hm (wpAny_of_J _ _ _ _ _ this)) ?_
  rintro e a' w' ⟨rfl, hr⟩
  exact hr

theorem T_done (hr : Region.ready .any ops listed = []) (h : K s R) : EAnyT P N ops s1 R1 fuel listed s R K :=
  fun G w1 W1 a w W _ _ hn hb hc hq => wpAnyJ_done hr ⟨rfl, hq a w ⟨s, R, W, h, hn, .refl ..⟩⟩ fuel

theorem T_light {i d : Nat} {o : Oper} {y : AV} (hi : ops[i]? = some o) (hw : want ops o s = some true) (hs : Region.noSelect ops = true) (hf : Region.free .any ops listed i = true) (hr : (Region.ready .any ops listed).contains i = true)
    (hnm : isMv o = false) (hd : o.dst = some d) (hN : d < N) (hv : Light P o s1 R1 y) (hl : listed.setIfInBounds i true = listed') (h : EAnyT P N ops ((d, y) :: s1) R1 fuel listed' ((d, y) :: s) R K) : EAnyT P N ops s1 R1 (fuel + 1) listed s R K := by
  subst hl
  intro G w1 W1 a w W hn1 ht hn hb hc hq
  obtain ⟨v, hy, hrun⟩ := hv N a w1 W1 hn1
  refine wpAnyJ_take hc hi hnm hs hf hr (fun c a' w' hp => by cases hp.1) (v := v) (.inl ⟨want_real hn hw, fun w' hb' => hrun w' hb'⟩) hb ?_
  rw [hd]
  exact h G w1 W1 _ w W (hn1.put hN hy) ht (hn.put hN (hy.next ht)) hb (hc.step (by simpa using hr)) hq

theorem T_old {i d : Nat} {o : Oper} {y : AV} (hi : ops[i]? = some o) (hw : want ops o s = some true) (hs : Region.noSelect ops = true) (hf : Region.free .any ops listed i = true) (hr : (Region.ready .any ops listed).contains i = true)
    (hd : o.dst = some d) (hN : d < N) (hv : Pure P o s1 R1 y) (hl : listed.setIfInBounds i true = listed') (h : EAnyT P N ops ((d, y) :: s1) R1 fuel listed' ((d, y) :: s) R K) : EAnyT P N ops s1 R1 (fuel + 1) listed s R K := by
  subst hl
  intro G w1 W1 a w W hn1 ht hn hb hc hq
  obtain ⟨v, hy, hrun⟩ := hv N a w1 W1 hn1
  refine wpAnyJ_take0 hc hi hs hf hr (fun c a' w' hp => by cases hp.1) (v := v) (.inl ⟨want_real hn hw, fun w' _ => hrun w'⟩) hb ?_
  rw [hd]
  exact h G w1 W1 _ w W (hn1.put hN hy) ht (hn.put hN (hy.next ht)) hb (hc.step (by simpa using hr)) hq

theorem EOps_skip1 {i d : Nat} {rest : List Nat} {o : Oper} (ho : ops[i]? = some o) (hw : want ops o s = some false) (hd : o.dst = some d) (hN : d < N) (h : EOps P N ops rest ((d, .tup []) :: s) R K) : EOps P N ops (i :: rest) s R K :=
  EOps_skip ho hw (fun d' hd' => by rw [hd] at hd'; cases hd'; exact hN) (by rw [hd]; exact h)

theorem T_heavy {i d : Nat} {o : Oper} (hi : ops[i]? = some o) (hw : want ops o s = some true) (hr : Region.ready .any ops listed = [i]) (hd : o.dst = some d) (hN : d < N) (hl : listed.setIfInBounds i true = listed')
    (h : HeavyV P o s R fun y R' => EAnyT P N ops ((d, back1 y) :: s1) R1 fuel listed' ((d, y) :: s) R' K) : EAnyT P N ops s1 R1 (fuel + 1) listed s R K := by
  subst hl
  intro G w1 W1 a w W hn1 ht hn hb hc hq
  refine ⟨fun h0 => (by rw [hr] at h0; cases h0), fun j hj => ?_⟩
  have hc' := hc.step hj
  rw [hr] at hj
  obtain rfl : j = i := by simpa using hj
  unfold wpOp
  simp only [hi, want_real hn hw, if_true]
  refine .inl (Oper.wp_mono (fun a' w' hh => ?_) (h N _ a w W hn))
  obtain ⟨h1, y, R', W', v, h2, rfl, h3, h4, h5⟩ := hh
  have hb' : Below w1.heap.size w1 w' := hb.trans (h1.mono hb.size)
  rw [hd]
  exact .inl ⟨hb', h2 G w1 W1 _ w' W' (hn1.put hN (back1_rel h3)) (ht.trans h4) ((hn.next h4 h5).put hN h3) hb' hc' fun a'' w'' hr' => hq a'' w'' (hr'.after h4)⟩

theorem V_pcall {o : Oper} {x : Operand} {args : Array Operand} {ats : Array TypeId} {f : FuncId} {args' : List AV} {Q : AV → List Res → Prop} {KV : AV → List Res → Prop} (ho : o.op = .call { callee := .value x, args := args, argTypes := ats }) (hx : ev s x = .c (.fn f [])) (hf : callable P f = true)
    (h0 : EFn P f args' [] Q) (ha : (args.toList.map (ev s)).map (E.lend R) = args') (hq : ∀ r S, Q r S → r.own = true ∧ S.all Res.own = true)
    (hk : ∀ r S, Q r S → KV (r.sh R.length) (R ++ S.map (Res.sh R.length))) : HeavyV P o s R KV := by
  have h : EFn P f ((args.toList.map (ev s)).map (E.lend R)) [] Q := ha ▸ h0
  intro N Q' a w W hn
  have hv := hn.ev x
  rw [hx] at hv
  obtain ⟨xs, e, h1⟩ := AR.fn_inv hv
  obtain rfl : xs = [] := by cases h1; rfl
  unfold Oper.wp
  have hr : (execOp a.eval o).run P w = .ok (.enter f (args.map a.eval)) w := by
    simp only [execOp, ho, resolve, e, Deferred.ofValue, Sem.run_bind, Sem.run_pure, Result.andThen_ok, invoke]
    simpa using run_callFunc hf _ w
  rw [hr, Oper.upon_enter]
  have hav : AVs W R w (args.toList.map (ev s)) (args.toList.map a.eval) := by
    refine ⟨by simp, fun i y v hy hu => ?_⟩
    rw [List.getElem?_map] at hy hu
    cases hi : args.toList[i]? with
    | none => rw [hi] at hy; cases hy
    | some z =>
      rw [hi] at hy hu
      obtain rfl : ev s z = y := by simpa using hy
      obtain rfl : a.eval z = v := by simpa using hu
      exact hn.ev z
  have hc := EFn.frame h hq w W _ hav hn.sep
  have hh : (args.toList.map a.eval).toArray = args.map a.eval := by
    apply Array.ext'; simp
  rw [hh] at hc
  refine hc.mono ?_
  rintro e' w' ⟨r, S, W', k1, ⟨v, rfl, k2⟩, k3, k4, k5⟩
  exact ⟨k5, _, _, W', v, hk r S k1, rfl, k2, k4, k3⟩

theorem Now.bool {a : Act} {w : World} {W : Wit} (hn : Now N s R a w W) {d : Nat} {b : Bool} (hd : E.get s d = .c (.sc (.bool b))) (c : Bool) (hc : b = c) : Now N ((d, .c (.sc (.bool c))) :: s) R a w W := by
  subst hc
  refine ⟨hn.size, hn.defers, fun t => ?_, hn.sep⟩
  simp only [E.get]
  split
  · rename_i e; subst e; rw [← hd]; exact hn.val d
  · exact hn.val t

end
end Go.Proofs.Ythlhmpknngidmaa.E

namespace Go.Proofs.Ythlhmpknngidmaa.E
open Go Go.RowKit
set_option linter.unusedVariables false
set_option linter.unusedSimpArgs false

section
variable {P : Program} {N n : Nat} {s s1 : Slots} {R R1 : List Res} {ops : Array Oper} {rest : List Nat} {K : Slots → List Res → Prop} {fuel : Nat} {listed listed' : Array Bool} {i : Nat} {o : Oper}

/-! ### 1. Light operations -/
theorem l_add {t t' : Nat} {x y : Operand} {u v : Int} (ho : o.op = .binOp .add t x y t') (hx : ev s x = .c (.sc (.int .i64 u))) (hy : ev s y = .c (.sc (.int .i64 v))) (h : -9223372036854775808 ≤ u + v ∧ u + v ≤ 9223372036854775807 := by constructor <;> first | omega | (dsimp only; omega) | (simp [ints_len, pairs_len, quads_len, quints_len, bools_len]; omega)) : Pure P o s R (.c (.sc (.int .i64 (u + v)))) := L_add ho hx hy h
theorem l_sub {t t' : Nat} {x y : Operand} {u v : Int} (ho : o.op = .binOp .sub t x y t') (hx : ev s x = .c (.sc (.int .i64 u))) (hy : ev s y = .c (.sc (.int .i64 v))) (h : -9223372036854775808 ≤ u - v ∧ u - v ≤ 9223372036854775807 := by constructor <;> first | omega | (dsimp only; omega) | (simp [ints_len, pairs_len, quads_len, quints_len, bools_len]; omega)) : Pure P o s R (.c (.sc (.int .i64 (u - v)))) := L_sub ho hx hy h
theorem l_field {t f k : Nat} {x : Operand} {y : AV} (ho : o.op = .fieldAddr t x f) (hk : fofs P t f = some k) (hp : ptrOk R (ev s x) = true := by first | rfl | exact ptrOk_of (by first | rfl | assumption) (by first | assumption | exact ints_len _ | exact pairs_len _ | exact quads_len _ | exact quints_len _ | exact bools_len _ | (simp [ints_len, bools_len, pairs_len, quads_len, quints_len, part_len, *]; done) | (simp [ints_len, bools_len, pairs_len, quads_len, quints_len]; omega) | rfl)) (hy : fav k (ev s x) = some y := by rfl) : Pure P o s R y := L_field ho hk hp hy
theorem i_ro {t e k : Nat} {b : Bool} {rows : List (List T)} {row : List T} {j : Int} (hs : isSlice P t = some e) (ht : tyIs P e = some (b, k)) (hj : 0 ≤ j := by omega) (hr : rows[j.toNat]? = some row := by first | (first | assumption | exact ints_at (by assumption) | exact bools_at (by assumption) | exact pairs_at (by assumption) | exact quads_at (by assumption) | exact quints_at (by assumption) | exact ints_at (part_at (by assumption)) | exact bools_at (part_at (by assumption)) | exact pairs_at (part_at (by assumption)) | exact quads_at (part_at (by assumption)) | exact quints_at (part_at (by assumption)) | exact List.getElem?_set_self (by omega) | rfl) | ((try simp only [Int.toNat_natCast, Nat.zero_add]); first | assumption | exact ints_at (by assumption) | exact bools_at (by assumption) | exact pairs_at (by assumption) | exact quads_at (by assumption) | exact quints_at (by assumption) | exact ints_at (part_at (by assumption)) | exact bools_at (part_at (by assumption)) | exact pairs_at (part_at (by assumption)) | exact quads_at (part_at (by assumption)) | exact quints_at (part_at (by assumption)) | exact List.getElem?_set_self (by omega) | rfl)) (hk : row.length = k := by rfl) : iav P R t (.c (.ro rows)) j = some (.c (.rp row)) := iav_ro hs ht hj hr hk
theorem i_sl {t e e' k i off len tot : Nat} {b : Bool} {rows : List (List T)} {j : Int} (hs : isSlice P t = some e) (ht : tyIs P e = some (b, k)) (hj : 0 ≤ j := by omega) (hR : R[i]? = some (.row e' k rows) := by first | rfl | assumption) (hl : rows.length = tot := by first | assumption | exact ints_len _ | exact pairs_len _ | exact quads_len _ | exact quints_len _ | exact bools_len _ | (simp [ints_len, bools_len, pairs_len, quads_len, quints_len, part_len, *]; done) | (simp [ints_len, bools_len, pairs_len, quads_len, quints_len]; omega) | rfl) (hjl : j.toNat < len := by first | omega | (simp [ints_len, bools_len, pairs_len, quads_len, quints_len]; omega)) : iav P R t (.c (.sl i off len tot)) j = some (.c (.ep i (off + j.toNat) 0 tot)) := iav_sl hs ht hj hR hl hjl
theorem d_bp {t n i off : Nat} {b : Bool} {cs : List AC} {y : AV} (ht : tyIs P t = some (b, n)) (hR : R[i]? = some (.box cs) := by first | rfl | assumption) (hy : mkv b n ((cs.drop off).take n) = some y := by rfl) : ldv P R t (.c (.bp i off)) = some y := ld_bp hR ht hy
theorem s_bp {t n i off : Nat} {b : Bool} {cs ys : List AC} (ht : tyIs P t = some (b, n)) (hR : R[i]? = some (.box cs) := by first | rfl | assumption) (hl : ys.length = n := by rfl) (ho : off + n ≤ cs.length := by exact Nat.le_of_ble_eq_true rfl) : stv P R t (.c (.bp i off)) ys = some (R.set i (.box (splice cs off ys))) := st_bp hR ht hl ho
theorem s_ep {t n i j off tot e k : Nat} {b : Bool} {rows : List (List T)} {row : List T} {ys : List AC} {xs : List Value} (ht : tyIs P t = some (b, n)) (hR : R[i]? = some (.row e k rows) := by first | rfl | assumption) (hl : rows.length = tot := by first | assumption | exact ints_len _ | exact pairs_len _ | exact quads_len _ | exact quints_len _ | exact bools_len _ | (simp [ints_len, bools_len, pairs_len, quads_len, quints_len, part_len, *]; done) | (simp [ints_len, bools_len, pairs_len, quads_len, quints_len]; omega) | rfl) (hr : rows[j]? = some row := by first | (first | assumption | exact ints_at (by assumption) | exact bools_at (by assumption) | exact pairs_at (by assumption) | exact quads_at (by assumption) | exact quints_at (by assumption) | exact ints_at (part_at (by assumption)) | exact bools_at (part_at (by assumption)) | exact pairs_at (part_at (by assumption)) | exact quads_at (part_at (by assumption)) | exact quints_at (part_at (by assumption)) | exact List.getElem?_set_self (by omega) | rfl) | ((try simp only [Int.toNat_natCast, Nat.zero_add]); first | assumption | exact ints_at (by assumption) | exact bools_at (by assumption) | exact pairs_at (by assumption) | exact quads_at (by assumption) | exact quints_at (by assumption) | exact ints_at (part_at (by assumption)) | exact bools_at (part_at (by assumption)) | exact pairs_at (part_at (by assumption)) | exact quads_at (part_at (by assumption)) | exact quints_at (part_at (by assumption)) | exact List.getElem?_set_self (by omega) | rfl)) (hx : ys.mapM act = some xs := by rfl) (hn : xs.length = n := by rfl) (ho : off + n ≤ k := by decide) (ha : ((row.drop off).take n).all isSc = true := by rfl) :
    stv P R t (.c (.ep i j off tot)) ys = some (R.set i (.row e k (rows.set j (splice row off (xs.map T.sc))))) := st_ep hR hl hr ht hx hn ho ha
theorem l_len {t e n : Nat} {x : Operand} (ho : o.op = .call { callee := .builtin .len, args := #[x], argTypes := #[t] }) (ht : isSlice P t = some e) (hx : lav (ev s x) = some n := by rfl) (hok : slOk R (ev s x) = true := by first | rfl | exact slOk_of (by first | rfl | assumption) (by first | assumption | exact ints_len _ | exact pairs_len _ | exact quads_len _ | exact quints_len _ | exact bools_len _ | (simp [ints_len, bools_len, pairs_len, quads_len, quints_len, part_len, *]; done) | (simp [ints_len, bools_len, pairs_len, quads_len, quints_len]; omega) | rfl)) : Pure P o s R (.c (.sc (.int .i64 n))) := L_len ho ht hx hok

/-! ### 2. An operation of a region -/
theorem x_pure {d : Nat} {y : AV} (ho : ops[i]? = some o) (hw : want ops o s = some true) (hd : o.dst = some d) (hv : Pure P o s R y) (h : EOps P N ops rest ((d, y) :: s) R K) (hN : d < N := by decide) : EOps P N ops (i :: rest) s R K := EOps_go ho hw (EOp_light hd hN hv.light h)
theorem x_light {d : Nat} {y : AV} (ho : ops[i]? = some o) (hw : want ops o s = some true) (hd : o.dst = some d) (hv : Light P o s R y) (h : EOps P N ops rest ((d, y) :: s) R K) (hN : d < N := by decide) : EOps P N ops (i :: rest) s R K := EOps_go ho hw (EOp_light hd hN hv h)
theorem x_skip {d : Nat} (ho : ops[i]? = some o) (hw : want ops o s = some false) (hd : o.dst = some d) (h : EOps P N ops rest ((d, .tup []) :: s) R K) (hN : d < N := by decide) : EOps P N ops (i :: rest) s R K := EOps_skip1 ho hw hd hN h
theorem x_alloc {d t : Nat} {zs : List AC} (ho' : ops[i]? = some o) (hw : want ops o s = some true) (ho : o.op = .alloc t) (hd : o.dst = some d) (hz : zav P t = some zs) (h : EOps P N ops rest ((d, .c (.bp R.length 0)) :: s) (R ++ [.box zs]) K) (hN : d < N := by decide) : EOps P N ops (i :: rest) s R K := EOps_go ho' hw (EOp_alloc ho hd hN hz h)
theorem x_box {d t : Nat} {x : Operand} {ys : List AC} (ho' : ops[i]? = some o) (hw : want ops o s = some true) (ho : o.op = .box t x) (hd : o.dst = some d) (hy : cellsOf (ev s x) = some ys) (h : EOps P N ops rest ((d, .c (.bp R.length 0)) :: s) (R ++ [.box ys]) K) (hN : d < N := by decide) : EOps P N ops (i :: rest) s R K := EOps_go ho' hw (EOp_box ho hd hN hy h)
theorem x_call {d : Nat} {x : Operand} {args : Array Operand} {ats : Array TypeId} {f : FuncId} {args' : List AV} {Q : AV → List Res → Prop} (ho' : ops[i]? = some o) (hw : want ops o s = some true) (ho : o.op = .call { callee := .value x, args := args, argTypes := ats }) (hd : o.dst = some d) (hx : ev s x = .c (.fn f [])) (hf : callable P f = true)
    (h : EFn P f args' [] Q) (hk : ∀ r S, Q r S → EOps P N ops rest ((d, r.sh R.length) :: s) (R ++ S.map (Res.sh R.length)) K) (ha : (args.toList.map (ev s)).map (E.lend R) = args' := by repeat' (first | (refine lend_whole rfl ?_; first | assumption | exact ints_len _ | exact pairs_len _ | exact quads_len _ | exact quints_len _ | exact bools_len _ | (simp [ints_len, bools_len, pairs_len, quads_len, quints_len, part_len, *]; done) | (simp [ints_len, bools_len, pairs_len, quads_len, quints_len]; omega) | rfl) | refine agg_eq ?_ | (refine lendC_whole rfl ?_; first | assumption | exact ints_len _ | exact pairs_len _ | exact quads_len _ | exact quints_len _ | exact bools_len _ | (simp [ints_len, bools_len, pairs_len, quads_len, quints_len, part_len, *]; done) | (simp [ints_len, bools_len, pairs_len, quads_len, quints_len]; omega) | rfl) | refine cons_eq ?_ ?_ | rfl | (simp [E.lend, E.lendC, E.ev, E.cv, E.get, E.fill', E.fill, AV.sh, AC.sh, Res.sh, ints_len, *]; done))) (hq : ∀ r S, Q r S → r.own = true ∧ S.all Res.own = true := by rintro r S ⟨rfl, rfl⟩; exact ⟨rfl, rfl⟩) (hN : d < N := by decide) : EOps P N ops (i :: rest) s R K := EOps_go ho' hw (Heavy.op (H_pcall1 ho hd hN hx hf h ha hq hk))
/-! ### 3. An operation of a region that draws its order -/
theorem t_old (i : Nat) {d : Nat} {y : AV} (hi : ops[i]? = some o) (hw : want ops o s = some true) (hd : o.dst = some d) (hv : Pure P o s1 R1 y) (h : EAnyT P N ops ((d, y) :: s1) R1 fuel listed' ((d, y) :: s) R K) (hs : Region.noSelect ops = true := by kernel_rfl) (hf : Region.free .any ops listed i = true := by kernel_rfl) (hr : (Region.ready .any ops listed).contains i = true := by kernel_rfl) (hN : d < N := by decide) (hl : listed.setIfInBounds i true = listed' := by rfl) : EAnyT P N ops s1 R1 (fuel + 1) listed s R K := T_old hi hw hs hf hr hd hN hv hl h
theorem t_light (i : Nat) {d : Nat} {y : AV} (hi : ops[i]? = some o) (hw : want ops o s = some true) (hd : o.dst = some d) (hv : Light P o s1 R1 y) (h : EAnyT P N ops ((d, y) :: s1) R1 fuel listed' ((d, y) :: s) R K) (hnm : isMv o = false := by rfl) (hs : Region.noSelect ops = true := by kernel_rfl) (hf : Region.free .any ops listed i = true := by kernel_rfl) (hr : (Region.ready .any ops listed).contains i = true := by kernel_rfl) (hN : d < N := by decide) (hl : listed.setIfInBounds i true = listed' := by rfl) : EAnyT P N ops s1 R1 (fuel + 1) listed s R K := T_light hi hw hs hf hr hnm hd hN hv hl h
theorem t_call (i : Nat) {d : Nat} {x : Operand} {args : Array Operand} {ats : Array TypeId} {f : FuncId} {args' : List AV} {Q : AV → List Res → Prop} {o : Oper} (hi : ops[i]? = some o) (hw : want ops o s = some true) (ho : o.op = .call { callee := .value x, args := args, argTypes := ats }) (hd : o.dst = some d) (hx : ev s x = .c (.fn f [])) (hf : callable P f = true)
    (h : EFn P f args' [] Q) (hk : ∀ r S, Q r S → EAnyT P N ops ((d, back1 (r.sh R.length)) :: s1) R1 fuel listed' ((d, r.sh R.length) :: s) (R ++ S.map (Res.sh R.length)) K) (ha : (args.toList.map (ev s)).map (E.lend R) = args' := by repeat' (first | (refine lend_whole rfl ?_; first | assumption | exact ints_len _ | exact pairs_len _ | exact quads_len _ | exact quints_len _ | exact bools_len _ | (simp [ints_len, bools_len, pairs_len, quads_len, quints_len, part_len, *]; done) | (simp [ints_len, bools_len, pairs_len, quads_len, quints_len]; omega) | rfl) | refine agg_eq ?_ | (refine lendC_whole rfl ?_; first | assumption | exact ints_len _ | exact pairs_len _ | exact quads_len _ | exact quints_len _ | exact bools_len _ | (simp [ints_len, bools_len, pairs_len, quads_len, quints_len, part_len, *]; done) | (simp [ints_len, bools_len, pairs_len, quads_len, quints_len]; omega) | rfl) | refine cons_eq ?_ ?_ | rfl | (simp [E.lend, E.lendC, E.ev, E.cv, E.get, E.fill', E.fill, AV.sh, AC.sh, Res.sh, ints_len, *]; done))) (hq : ∀ r S, Q r S → r.own = true ∧ S.all Res.own = true := by rintro r S ⟨rfl, rfl⟩; exact ⟨rfl, rfl⟩) (hN : d < N := by decide) (hr : Region.ready .any ops listed = [i] := by kernel_rfl) (hl : listed.setIfInBounds i true = listed' := by rfl) : EAnyT P N ops s1 R1 (fuel + 1) listed s R K := T_heavy hi hw hr hd hN hl (V_pcall ho hx hf h ha hq hk)
end

/-! ### 4. Control -/
section
variable {P : Program} {N n : Nat} {s : Slots} {R : List Res} {Q : Exit → Slots → List Res → Prop}
theorem e_tidy {c : Code} (keep : List Nat) {base : Slots} {R' : List Res} (h : ECode P N c base R' Q) (hb : keepOf s keep = base := by simp only [E.keepOf, E.get, E.ev, E.cv, E.fill', E.fill, E.slotsOf, Res.sh, AC.sh, AC.sh.shs, AV.sh, E.splice, List.map_cons, List.map_nil, List.cons_append, List.nil_append, List.append_nil, List.length_cons, List.length_nil, List.take_zero, List.drop_zero, List.take_succ_cons, List.drop_succ_cons, List.drop_nil, List.take_nil, List.set_cons_zero, List.set_cons_succ, Nat.zero_add, Nat.add_zero, Nat.reduceAdd, Nat.reduceSub, reduceIte, Nat.reduceEqDiff, E.back, E.backR, E.ix, Res.un, AC.un, AC.un.uns, AV.un, E.un, Option.map_some, Option.map_none, Option.getD_some, List.getElem?_cons_zero, List.getElem?_cons_succ, List.getElem?_nil]; rfl) (hR : R = R' := by (try simp only [E.keepOf, E.get, E.ev, E.cv, E.fill', E.fill, E.slotsOf, Res.sh, AC.sh, AC.sh.shs, AV.sh, E.splice, List.map_cons, List.map_nil, List.cons_append, List.nil_append, List.append_nil, List.length_cons, List.length_nil, List.take_zero, List.drop_zero, List.take_succ_cons, List.drop_succ_cons, List.drop_nil, List.take_nil, List.set_cons_zero, List.set_cons_succ, Nat.zero_add, Nat.add_zero, Nat.reduceAdd, Nat.reduceSub, reduceIte, Nat.reduceEqDiff, E.back, E.backR, E.ix, Res.un, AC.un, AC.un.uns, AV.un, E.un, Option.map_some, Option.map_none, Option.getD_some, List.getElem?_cons_zero, List.getElem?_cons_succ, List.getElem?_nil]); rfl) : ECode P N c s R Q := E_tidy keep hb hR h
theorem e_for {α : Type} {c : Code} (keep : List Nat) (mods : α → Slots) (Rf : α → List Res) (I : α → Prop) (m : α → Nat) (x0 : α) {base : Slots} (h0 : I x0) (hR : R = Rf x0) (h1 : chk s (mods x0))
    (round : ∀ x, I x → ECode P N c (mods x ++ base) (Rf x) (EThen (fun s' R' => ∃ y, m y < m x ∧ I y ∧ R' = Rf y ∧ chk s' (mods y) ∧ chk s' base) Q)) (hb : keepOf s keep = base := by simp only [E.keepOf, E.get, E.ev, E.cv, E.fill', E.fill, E.slotsOf, Res.sh, AC.sh, AC.sh.shs, AV.sh, E.splice, List.map_cons, List.map_nil, List.cons_append, List.nil_append, List.append_nil, List.length_cons, List.length_nil, List.take_zero, List.drop_zero, List.take_succ_cons, List.drop_succ_cons, List.drop_nil, List.take_nil, List.set_cons_zero, List.set_cons_succ, Nat.zero_add, Nat.add_zero, Nat.reduceAdd, Nat.reduceSub, reduceIte, Nat.reduceEqDiff, E.back, E.backR, E.ix, Res.un, AC.un, AC.un.uns, AV.un, E.un, Option.map_some, Option.map_none, Option.getD_some, List.getElem?_cons_zero, List.getElem?_cons_succ, List.getElem?_nil]; rfl) : ECode P N (.loop c) s R Q := E_for keep mods Rf I m x0 hb h0 hR h1 round
theorem g_tidy {c : Code} (keep : List Nat) {base : Slots} {R' : List Res} (h : GCode P N n c base R' Q) (hb : keepOf s keep = base := by simp only [E.keepOf, E.get, E.ev, E.cv, E.fill', E.fill, E.slotsOf, Res.sh, AC.sh, AC.sh.shs, AV.sh, E.splice, List.map_cons, List.map_nil, List.cons_append, List.nil_append, List.append_nil, List.length_cons, List.length_nil, List.take_zero, List.drop_zero, List.take_succ_cons, List.drop_succ_cons, List.drop_nil, List.take_nil, List.set_cons_zero, List.set_cons_succ, Nat.zero_add, Nat.add_zero, Nat.reduceAdd, Nat.reduceSub, reduceIte, Nat.reduceEqDiff, E.back, E.backR, E.ix, Res.un, AC.un, AC.un.uns, AV.un, E.un, Option.map_some, Option.map_none, Option.getD_some, List.getElem?_cons_zero, List.getElem?_cons_succ, List.getElem?_nil]; rfl) (hR : R = R' := by (try simp only [E.keepOf, E.get, E.ev, E.cv, E.fill', E.fill, E.slotsOf, Res.sh, AC.sh, AC.sh.shs, AV.sh, E.splice, List.map_cons, List.map_nil, List.cons_append, List.nil_append, List.append_nil, List.length_cons, List.length_nil, List.take_zero, List.drop_zero, List.take_succ_cons, List.drop_succ_cons, List.drop_nil, List.take_nil, List.set_cons_zero, List.set_cons_succ, Nat.zero_add, Nat.add_zero, Nat.reduceAdd, Nat.reduceSub, reduceIte, Nat.reduceEqDiff, E.back, E.backR, E.ix, Res.un, AC.un, AC.un.uns, AV.un, E.un, Option.map_some, Option.map_none, Option.getD_some, List.getElem?_cons_zero, List.getElem?_cons_succ, List.getElem?_nil]); rfl) : GCode P N n c s R Q := G_tidy keep hb hR h
theorem g_forD {α : Type} {c : Code} (keep : List Nat) (mods : α → Slots) (Rf : α → List Res) (I : α → Prop) (m : α → Nat) (x0 : α) {base : Slots} (h0 : I x0) (hR : R = Rf x0) (h1 : chk s (mods x0))
    (round : ∀ x, I x → GCode P N n c (mods x ++ base) (Rf x) (EThen (fun s' R' => ∃ σ, okσ n R' σ = true ∧ ∃ y, m y < m x ∧ I y ∧ reR n σ R' = Rf y ∧ chk (renS n σ s') (mods y) ∧ chk (renS n σ s') base) Q)) (hb : keepOf s keep = base := by simp only [E.keepOf, E.get, E.ev, E.cv, E.fill', E.fill, E.slotsOf, Res.sh, AC.sh, AC.sh.shs, AV.sh, E.splice, List.map_cons, List.map_nil, List.cons_append, List.nil_append, List.append_nil, List.length_cons, List.length_nil, List.take_zero, List.drop_zero, List.take_succ_cons, List.drop_succ_cons, List.drop_nil, List.take_nil, List.set_cons_zero, List.set_cons_succ, Nat.zero_add, Nat.add_zero, Nat.reduceAdd, Nat.reduceSub, reduceIte, Nat.reduceEqDiff, E.back, E.backR, E.ix, Res.un, AC.un, AC.un.uns, AV.un, E.un, Option.map_some, Option.map_none, Option.getD_some, List.getElem?_cons_zero, List.getElem?_cons_succ, List.getElem?_nil]; rfl) : GCode P N n (.loop c) s R Q := G_forD keep mods Rf I m x0 hb h0 hR h1 round
end
end Go.Proofs.Ythlhmpknngidmaa.E
