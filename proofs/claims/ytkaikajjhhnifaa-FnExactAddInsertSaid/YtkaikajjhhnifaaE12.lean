/- Words of the session's own, twelfth part: rows that are made, filled, made longer; cuts; callees with their arguments named. -/
import Derived.Test.YtkaikajjhhnifaaE11
import Derived.Maps.AppendAt
namespace Go.Proofs.Ytkaikajjhhnifaa.E
open Go Go.RowKit
set_option linter.unusedVariables false
set_option linter.unusedSimpArgs false

section
variable {P : Program} {N : Nat} {s : Slots} {R : List Res} {K : Slots → List Res → Prop}

theorem H_light {o : Oper} {d : Nat} {y : AV} (hd : o.dst = some d) (hN : d < N) (hv : Light P o s R y) (h : K ((d, y) :: s) R) : Heavy P N o s R K := by
  intro Q a w W hn
  obtain ⟨v, hy, hr⟩ := hv N a w W hn
  unfold Oper.wp
  rw [hr w (Below.refl ..), Oper.upon_value, hd]
  exact ⟨Below.refl _ _, _, R, W, h, hn.put hN hy, .refl ..⟩

theorem H_pcall' {o : Oper} {x : Operand} {args : Array Operand} {ats : Array TypeId} {f : FuncId} {args' : List AV} {Q : AV → List Res → Prop} (ho : o.op = .call { callee := .value x, args := args, argTypes := ats }) (hd : ∀ d, o.dst = some d → d < N) (hx : ev s x = .c (.fn f [])) (hf : callable P f = true)
    (h : EFn P f args' [] Q) (ha : (args.toList.map (ev s)).map (E.lend R) = args') (hq : ∀ r S, Q r S → r.own = true ∧ S.all Res.own = true)
    (hk : ∀ r S, Q r S → K (fill' s o.dst (r.sh R.length)) (R ++ S.map (Res.sh R.length))) : Heavy P N o s R K :=
  H_pcall ho hd hx hf (ha ▸ h) hq hk

/-- Any callee, under the resources as they stand. -/
theorem EOp_call' {o : Oper} {x : Operand} {args : Array Operand} {ats : Array TypeId} {f : FuncId} {caps : List AC} {args' : List AV} {Q : AV → List Res → Prop} (ho : o.op = .call { callee := .value x, args := args, argTypes := ats }) (hd : ∀ d, o.dst = some d → d < N) (hx : ev s x = .c (.fn f caps)) (hf : callable P f = true)
    (h : EFn P f args' R Q) (ha : args.toList.map (ev s) ++ caps.map .c = args') (hk : ∀ r R', Q r R' → K (fill' s o.dst r) R') : EOp P N o s R K :=
  EOp_call ho hd hx hf (EFn.mono (ha ▸ h) hk)

theorem H_pcall1 {o : Oper} {x : Operand} {args : Array Operand} {ats : Array TypeId} {f : FuncId} {args' : List AV} {Q : AV → List Res → Prop} {d : Nat} (ho : o.op = .call { callee := .value x, args := args, argTypes := ats }) (hd : o.dst = some d) (hN : d < N) (hx : ev s x = .c (.fn f [])) (hf : callable P f = true)
    (h : EFn P f args' [] Q) (ha : (args.toList.map (ev s)).map (E.lend R) = args') (hq : ∀ r S, Q r S → r.own = true ∧ S.all Res.own = true)
    (hk : ∀ r S, Q r S → K ((d, r.sh R.length) :: s) (R ++ S.map (Res.sh R.length))) : Heavy P N o s R K :=
  H_pcall ho (fun d' hd' => by rw [hd] at hd'; cases hd'; exact hN) hx hf (ha ▸ h) hq (fun r S hr => by rw [hd]; exact hk r S hr)

theorem EOp_call1 {o : Oper} {x : Operand} {args : Array Operand} {ats : Array TypeId} {f : FuncId} {caps : List AC} {args' : List AV} {Q : AV → List Res → Prop} {d : Nat} (ho : o.op = .call { callee := .value x, args := args, argTypes := ats }) (hd : o.dst = some d) (hN : d < N) (hx : ev s x = .c (.fn f caps)) (hf : callable P f = true)
    (h : EFn P f args' R Q) (ha : args.toList.map (ev s) ++ caps.map .c = args') (hk : ∀ r R', Q r R' → K ((d, r) :: s) R') : EOp P N o s R K :=
  EOp_call' ho (fun d' hd' => by rw [hd] at hd'; cases hd'; exact hN) hx hf h ha (fun r R' hr => by rw [hd]; exact hk r R' hr)

/-- An operation that may make memory, turns nothing that stood and yields y. -/
def HeavyV (P : Program) (o : Oper) (s : Slots) (R : List Res) (K : AV → List Res → Prop) : Prop :=
  ∀ N Q a w W, Now N s R a w W → o.wp P a w (fun a' w' => Below w.heap.size w w' ∧ ∃ y R' W' v, K y R' ∧ a' = a.put o.dst v ∧ AVR W' R' w' y v ∧ Trans w W R w' W' R' ∧ Sep w' W' R') Q

theorem HeavyV.heavy {o : Oper} (hd : ∀ d, o.dst = some d → d < N) (h : HeavyV P o s R fun y R' => K (fill' s o.dst y) R') : Heavy P N o s R K := by
  intro Q a w W hn
  refine Oper.wp_mono (fun a' w' hh => ?_) (h N Q a w W hn)
  obtain ⟨h1, y, R', W', v, h2, rfl, h3, h4, h5⟩ := hh
  exact ⟨h1, _, R', W', h2, (hn.next h4 h5).fill' hd h3, h4⟩

/-! ### 1. Scalars alone -/
theorem Ow.scs {w : World} {O : Nat → Prop} {ts : List T} {vs : List Value} (h : Rd w O ts vs) (ha : ts.all isSc = true) : Ow w ts vs (fun _ => False) := by
  induction h with
  | nil => exact .nil
  | sc h1 _ ih => exact .sc h1 (ih (by simpa [isSc] using ha))
  | sl k h1 h2 h3 h4 _ _ _ _ => simp [isSc] at ha

theorem Ow.scv {w : World} : ∀ {vs : List Value}, (∀ v ∈ vs, v.oneCell' = true) → Ow w (vs.map T.sc) vs (fun _ => False)
  | [], _ => .nil
  | v :: vs, h => .sc (h v (List.mem_cons_self ..)) (Ow.scv fun u hu => h u (List.mem_cons_of_mem _ hu))

/-- A new row at the end. -/
theorem Sep.row {w w' : World} {W : Wit} {R : List Res} (hs : Sep w W R) {e k : Nat} {v : Value} {rows : List (List T)} {cells : List Value} (ho : w'.os = w.os) (htp : w'.tape = w.tape) (hout : w'.output = w.output) (hsz : w.heap.size ≤ w'.heap.size)
    (hold : ∀ b, b < w.heap.size → w'.heap[b]? = w.heap[b]?) (hk : 0 < k) (hr : ∀ r ∈ rows, r.length = k) (hown : w'.ownsRow 0 e k v rows.length cells) (hob : ∀ b, v.ownBlock = some b → w.heap.size ≤ b) (hc : Ow w' rows.flatten cells (fun _ => False)) :
    ∃ W', Trans w W R w' W' (R ++ [.row e k rows]) ∧ Sep w' W' (R ++ [.row e k rows]) ∧ W'.hs R.length = v := by
  obtain ⟨h1, h2⟩ := hs.more (w' := w') (r := .row e k rows) (v := v) (F := fun b => v.ownBlock = some b) ho htp hout hsz hold
    (fun b hb => ⟨hob b hb, (hown.lt b hb).2⟩) (fun h => by cases h) (fun tr => ⟨hk, hr, cells, fun _ => False, hown, hc, fun _ _ h => h, fun b => by simp⟩)
  exact ⟨_, h1, h2, by simp [Wit.new]⟩

/-- The whole of a row. -/
theorem sl_whole {W' : Wit} {R' : List Res} {w' : World} {i n : Nat} {e k : Nat} {rows : List (List T)} {v : Value} (hi : R'[i]? = some (.row e k rows)) (hl : rows.length = n) (hv : W'.hs i = v) (h1 : v.oneCell' = true) (hs : Sep w' W' R') : AVR W' R' w' (.c (.sl i 0 n n)) v := by
  have hlt : i < R'.length := by
    rcases Nat.lt_or_ge i R'.length with h' | h'
    · exact h'
    · rw [List.getElem?_eq_none h'] at hi; cases hi
  refine AR.sl h1 hlt (fun e' k' rows' hr => ?_) .nil
  rw [hi] at hr
  obtain ⟨rfl, rfl, rfl⟩ : e = e' ∧ k = k' ∧ rows = rows' := by cases hr; exact ⟨rfl, rfl, rfl⟩
  refine ⟨by omega, fun _ => ?_⟩
  obtain ⟨f1, f2, cells, G, f3, _⟩ := hs.res i _ hi
  obtain ⟨a, c, g1, g2, g3, _, g4⟩ := ownsRow_reads f3
  rw [hv] at g1
  refine ⟨a, rows.length, c, hv.trans g1, by omega, .inl ?_⟩
  rw [g1, hl]
  simp only [Nat.zero_mul, Nat.sub_zero]
  congr 1
  cases a with
  | none => rfl
  | some b =>
    rcases f3.2 with ⟨g5, _⟩ | ⟨g, cap, cur, g5, _⟩
    · rw [hv, g1] at g5; cases g5
    · rw [hv, g1] at g5
      have : b = ⟨g, 0, none⟩ := by cases g5; rfl
      rw [this]; rfl

/-! ### 2. A row is made -/
def zT : AC → T
  | .sc (.slice none 0 0) => .sl []
  | .sc v => .sc v
  | _ => .sl []

theorem zT_ow {w : World} : ∀ {zs : List Value}, zs.all (·.oneCell') = true → Ow w ((zs.map AC.sc).map zT) zs (fun _ => False)
  | [], _ => .nil
  | z :: zs, h => by
    simp only [List.all_cons, Bool.and_eq_true] at h
    have ih := zT_ow (w := w) h.2
    simp only [List.map_cons, zT]
    split
    · rename_i e
      obtain rfl : z = .slice none 0 0 := by cases e; rfl
      have := Ow.sl (w := w) (rows := []) (v := .slice none 0 0) (cells := []) 0 1 (by omega) (by simp) ⟨rfl, .inl ⟨rfl, rfl⟩⟩ (by simpa using Ow.nil) ih (fun b hb => by cases hb) (fun _ h => False.elim h)
      have e2 : (fun b : Nat => (Value.slice none 0 0).ownBlock = some b ∨ (fun _ : Nat => False) b ∨ (fun _ : Nat => False) b) = fun _ => False := by funext b; simp [Value.ownBlock]
      rw [e2] at this
      exact this
    · rename_i v _ e
      obtain rfl : z = v := by cases e; rfl
      exact .sc h.1 ih
    · rename_i e1 e2; exact absurd rfl (e2 z)

theorem madeCells_flat (z : Array Value) : ∀ n, (madeCells z (n * z.size)).toList = (List.replicate n z.toList).flatten := by
  intro n
  have hk : ∀ r ∈ List.replicate n z.toList, r.length = z.size := by
    intro r hr
    rw [List.eq_of_mem_replicate hr]; simp
  apply List.ext_getElem?
  intro j
  by_cases hj : j < n * z.size
  · have hz : 0 < z.size := Nat.pos_of_ne_zero fun h => by rw [h] at hj; omega
    have hq : j / z.size < n := (Nat.div_lt_iff_lt_mul hz).2 hj
    have hm := Nat.mod_lt j hz
    have h1 := flatten_row hk (j := j / z.size) (row := z.toList) (by simp [hq])
    have h2 : (List.replicate n z.toList).flatten[j]? = z.toList[j % z.size]? := by
      have := congrArg (fun l => l[j % z.size]?) h1
      simp only [List.getElem?_take, hm, if_true, List.getElem?_drop] at this
      rwa [show j / z.size * z.size + j % z.size = j by rw [Nat.mul_comm]; exact Nat.div_add_mod j z.size] at this
    rw [h2]
    simp [madeCells, hj, hm]
  · rw [List.getElem?_eq_none (by rw [Array.length_toList, size_madeCells]; omega), List.getElem?_eq_none (by rw [flatten_len hk, List.length_replicate]; omega)]

theorem Ow.rep {w : World} {ts : List T} {vs : List Value} (h : Ow w ts vs (fun _ => False)) : ∀ n, Ow w (List.replicate n ts).flatten (List.replicate n vs).flatten (fun _ => False)
  | 0 => (Ow.nil : Ow w [] [] (fun _ => False))
  | n + 1 => by
    obtain ⟨H, h1, h2⟩ := h.append (Ow.rep h n) (fun _ h => False.elim h)
    have : H = fun _ => False := by funext b; exact propext ((h2 b).trans (by simp))
    rw [this] at h1
    rw [List.replicate_succ, List.replicate_succ, List.flatten_cons, List.flatten_cons]
    exact h1

theorem by_parts {t bytes : Nat} {b : Bool} {k : Nat} {zs : List AC} (hty : tyIs P t = some (b, k)) (hby : (P.info? t).map (·.bytes) = some bytes) (hz : zav P t = some zs) :
    ∃ i z, P.info? t = some i ∧ i.zero = some z ∧ i.size = k ∧ i.bytes = bytes ∧ zs = z.cells.toList.map AC.sc ∧ z.cells.toList.all (·.oneCell') = true := by
  obtain ⟨d, i, h1, _, h2, h3⟩ := tyIs_parts hty
  unfold zav at hz
  rw [h2] at hz hby
  simp only [Option.bind_some] at hz
  cases hi : i.zero with
  | none => rw [hi] at hz; cases hz
  | some z =>
    rw [hi] at hz
    simp only at hz
    split at hz
    · rename_i ha
      exact ⟨i, z, h2, hi, h3, by simpa using hby, (Option.some.inj hz).symm, ha⟩
    · cases hz

theorem H_make {o : Oper} {d t e n k bytes : Nat} {x y : Operand} {b : Bool} {zs : List AC} (ho : o.op = .makeSlice t x y) (hd : o.dst = some d) (hN : d < N) (hx : ev s x = .c (.sc (.int .i64 (n : Int)))) (hy : ev s y = .c (.sc (.int .i64 (n : Int))))
    (ht : isSlice P t = some e) (hty : tyIs P e = some (b, k)) (hby : (P.info? e).map (·.bytes) = some bytes) (hz : zav P e = some zs) (hzl : zs.length = k ∧ 0 < k) (hn : bytes * n ≤ 281474976710656 ∧ n ≤ 9223372036854775807)
    (h : K ((d, .c (.sl R.length 0 n n)) :: s) (R ++ [.row e k (List.replicate n (zs.map zT))])) : Heavy P N o s R K := by
  intro Q a w W hn'
  obtain ⟨i, z, h1, h2, h3, h4, rfl, h6⟩ := by_parts hty hby hz
  have hzk : z.cells.size = k := by have := hzl.1; simpa using this
  obtain ⟨w', r1, r2, r3⟩ := run_make_full (P := P) w 0 t e i z k (isSlice_of ht) h1 h2 h3 .i64 .i64 n (by rw [h4]; exact hn.1) (by unfold maxLen; omega) (Nat.zero_le _)
  have hfl : (madeCells z.cells (n * k)).toList = (List.replicate n z.cells.toList).flatten := by rw [← hzk]; exact madeCells_flat _ _
  obtain ⟨W', k1, k2, k3⟩ := hn'.sep.row (rows := List.replicate n ((z.cells.toList.map AC.sc).map zT)) (cells := (madeCells z.cells (n * k)).toList) (k := k) (e := e) (v := .slice (some ⟨w.heap.size, 0, none⟩) n n) r3.os r3.tape r3.output r3.size
    (fun b hb => r3.block b hb (by simp)) hzl.2 (fun r hr => by rw [List.eq_of_mem_replicate hr]; simpa using hzk) (by rw [List.length_replicate]; exact r2) (fun b hb => by cases hb; exact Nat.le_refl _)
    (by rw [hfl]; exact (zT_ow h6).rep n)
  unfold Oper.wp
  have hr : (execOp a.eval o).run P w = .ok (.value (.slice (some ⟨w.heap.size, 0, none⟩) n n)) w' := by
    simp only [execOp, ho, hn'.sc hx, hn'.sc hy, Sem.run_bind, r1, Result.andThen_ok]; rfl
  rw [hr, Oper.upon_value, hd]
  exact ⟨⟨r3.os, r3.tape, r3.output, r3.size, fun b hb => r3.block b hb (by simp)⟩, _, _, W', h, (hn'.next k1 k2).put hN (sl_whole (e := e) (k := k) (rows := List.replicate n ((z.cells.toList.map AC.sc).map zT)) (by simp) (by simp) k3 rfl k2), k1⟩

end

theorem cons_eq {α : Type} {a b : α} {l m : List α} (h : a = b) (k : l = m) : a :: l = b :: m := by rw [h, k]
theorem lend_whole {R : List Res} {i e k n : Nat} {rows : List (List T)} (hR : R[i]? = some (.row e k rows)) (hn : rows.length = n) : E.lend R (.c (.sl i 0 n n)) = .c (.ro rows) := by
  simp [E.lend, lendC, hR, hn, List.take_of_length_le (Nat.le_of_eq hn)]
theorem lendC_whole {R : List Res} {i e k n : Nat} {rows : List (List T)} (hR : R[i]? = some (.row e k rows)) (hn : rows.length = n) : lendC R (.sl i 0 n n) = .ro rows := by
  simp [lendC, hR, hn, List.take_of_length_le (Nat.le_of_eq hn)]
theorem lend_part {R : List Res} {i e k n off len : Nat} {rows : List (List T)} (hR : R[i]? = some (.row e k rows)) (hn : rows.length = n) : E.lend R (.c (.sl i off len n)) = .c (.ro ((rows.drop off).take len)) := by
  simp [E.lend, lendC, hR, hn]
theorem ren_sc (n : Nat) (σ : List Nat) (v : Value) : AC.ren n σ (.sc v) = .sc v := rfl
theorem ren_ro (n : Nat) (σ : List Nat) (v : List (List T)) : AC.ren n σ (.ro v) = .ro v := rfl
theorem bool_eq {a b : Bool} (h : a = true ↔ b = true) : AV.c (.sc (.bool a)) = .c (.sc (.bool b)) := by rw [Bool.eq_iff_iff.2 h]
theorem agg_eq {a b : List AC} (h : a = b) : AV.agg a = AV.agg b := by rw [h]
theorem int_eq {a b : Int} (h : a = b) : AV.c (.sc (.int .i64 a)) = .c (.sc (.int .i64 b)) := by rw [h]

/-! ### 3. Lists of scalars, told anew -/
theorem ints_set {xs : List Int} {k : Nat} {x : Int} : (ints xs).set k [.sc (.int .i64 x)] = ints (xs.set k x) := by simp [ints, List.map_set]
theorem ints_take (xs : List Int) (n : Nat) : (ints xs).take n = ints (xs.take n) := by simp [ints, List.map_take]
theorem ints_drop (xs : List Int) (n : Nat) : (ints xs).drop n = ints (xs.drop n) := by simp [ints, List.map_drop]
theorem ints_app (xs ys : List Int) : ints xs ++ ints ys = ints (xs ++ ys) := by simp [ints]
theorem ints_rep (n : Nat) : List.replicate n [T.sc (.int .i64 0)] = ints (List.replicate n 0) := by simp [ints]
theorem ints_row (xs : List Int) : ∀ r ∈ ints xs, r.length = 1 ∧ r.all isSc = true := by
  intro r hr
  simp only [ints, List.mem_map] at hr
  obtain ⟨x, _, rfl⟩ := hr
  exact ⟨rfl, rfl⟩
theorem ints_inj {xs ys : List Int} (h : ints xs = ints ys) : xs = ys := by
  apply List.ext_getElem?
  intro i
  have := congrArg (fun l => l[i]?) h
  simp only [ints, List.getElem?_map] at this
  cases h1 : xs[i]? <;> cases h2 : ys[i]? <;> simp_all
theorem bools_row (xs : List Bool) : ∀ r ∈ bools xs, r.length = 1 ∧ r.all isSc = true := by
  intro r hr
  simp only [bools, List.mem_map] at hr
  obtain ⟨x, _, rfl⟩ := hr
  exact ⟨rfl, rfl⟩
theorem pairs_row (xs : List (Int × Int)) : ∀ r ∈ pairs xs, r.length = 2 ∧ r.all isSc = true := by
  intro r hr
  simp only [pairs, List.mem_map] at hr
  obtain ⟨x, _, rfl⟩ := hr
  exact ⟨rfl, rfl⟩
theorem pairs_app (xs ys : List (Int × Int)) : pairs xs ++ pairs ys = pairs (xs ++ ys) := by simp [pairs]
theorem bools_set {xs : List Bool} {k : Nat} {x : Bool} : (bools xs).set k [.sc (.bool x)] = bools (xs.set k x) := by simp [bools, List.map_set]
theorem bools_rep (n : Nat) : List.replicate n [T.sc (.bool false)] = bools (List.replicate n false) := by simp [bools]
theorem pairs_set {xs : List (Int × Int)} {k : Nat} {x : Int × Int} : (pairs xs).set k [.sc (.int .i64 x.1), .sc (.int .i64 x.2)] = pairs (xs.set k x) := by simp [pairs, List.map_set]
theorem pairs_rep (n : Nat) : List.replicate n [T.sc (.int .i64 0), T.sc (.int .i64 0)] = pairs (List.replicate n (0, 0)) := by simp [pairs]
theorem quads_row (xs : List (Int × Int × Int × Int)) : ∀ r ∈ quads xs, r.length = 4 ∧ r.all isSc = true := by
  intro r hr
  simp only [quads, List.mem_map] at hr
  obtain ⟨x, _, rfl⟩ := hr
  exact ⟨rfl, rfl⟩
theorem quads_set {xs : List (Int × Int × Int × Int)} {k : Nat} {x : Int × Int × Int × Int} : (quads xs).set k [.sc (.int .i64 x.1), .sc (.int .i64 x.2.1), .sc (.int .i64 x.2.2.1), .sc (.int .i64 x.2.2.2)] = quads (xs.set k x) := by simp [quads, List.map_set]
theorem quads_rep (n : Nat) : List.replicate n [T.sc (.int .i64 0), T.sc (.int .i64 0), T.sc (.int .i64 0), T.sc (.int .i64 0)] = quads (List.replicate n (0, 0, 0, 0)) := by simp [quads]

/-- The first k as asked, the rest as at the start. -/
def part {α : Type} (xs : List α) (z : α) (k : Nat) : List α := xs.take k ++ List.replicate (xs.length - k) z
theorem part_zero {α : Type} (xs : List α) (z : α) : part xs z 0 = List.replicate xs.length z := by simp [part]
theorem part_len {α : Type} (xs : List α) (z : α) {k : Nat} (h : k ≤ xs.length) : (part xs z k).length = xs.length := by simp [part]; omega
theorem part_full {α : Type} (xs : List α) (z : α) {k : Nat} (h : xs.length ≤ k) : part xs z k = xs := by
  simp [part, List.take_of_length_le h, show xs.length - k = 0 by omega]
theorem part_set {α : Type} {xs : List α} {z x : α} {k : Nat} (h : xs[k]? = some x) : (part xs z k).set k x = part xs z (k + 1) := by
  have hk : k < xs.length := by
    rcases Nat.lt_or_ge k xs.length with h' | h'
    · exact h'
    · rw [List.getElem?_eq_none h'] at h; cases h
  have hx : xs[k] = x := by rw [List.getElem?_eq_getElem hk] at h; exact Option.some.inj h
  unfold part
  rw [List.set_append, if_neg (by simp; omega), List.length_take, Nat.min_eq_left (Nat.le_of_lt hk), Nat.sub_self, List.take_succ_eq_append_getElem hk, hx]
  obtain ⟨m, hm⟩ : ∃ m, xs.length - k = m + 1 := ⟨xs.length - k - 1, by omega⟩
  rw [hm, List.replicate_succ, List.set_cons_zero, show xs.length - (k + 1) = m by omega]
  simp
theorem part_at {α : Type} {xs : List α} {z : α} {k : Nat} (h : k < xs.length) : (part xs z k)[k]? = some z := by
  unfold part
  rw [List.getElem?_append_right (by simp; omega), List.length_take, Nat.min_eq_left (Nat.le_of_lt h), Nat.sub_self, List.getElem?_replicate, if_pos (by omega)]

end Go.Proofs.Ytkaikajjhhnifaa.E
