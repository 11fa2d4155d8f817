/- Words of the session's own, fourth part: memory: loads, stores, addresses, new variables. -/
import Derived.Test.YtkaikajjhhnifaaE3
namespace Go.Proofs.Ytkaikajjhhnifaa.E
open Go Go.RowKit
set_option linter.unusedVariables false
set_option linter.unusedSimpArgs false

/-! ### 1. The machine's own words -/
def aggD : TypeDesc → Bool
  | .struct _ => true
  | .array _ _ => true
  | _ => false

/-- Is a type a struct or an array, and how many cells has it. -/
def tyIs (P : Program) (t : TypeId) : Option (Bool × Nat) :=
  match P.underlying t, P.info? t with
  | some d, some i => some (aggD d, i.size)
  | _, _ => none

theorem add_plain (b o j : Nat) : (⟨b, o, none⟩ : Addr).add j = ⟨b, o + j, none⟩ := by
  unfold Addr.add
  split
  · rename_i h; simp [h]
  · rfl

section
variable {P : Program} {t n : Nat} {agg : Bool}

theorem tyIs_parts (h : tyIs P t = some (agg, n)) : ∃ d i, P.underlying t = some d ∧ aggD d = agg ∧ P.info? t = some i ∧ i.size = n := by
  unfold tyIs at h
  split at h
  · rename_i d i h1 h2
    obtain ⟨rfl, rfl⟩ := Prod.mk.inj (Option.some.inj h)
    exact ⟨d, i, h1, rfl, h2, rfl⟩
  · cases h

theorem run_isAgg_ (h : tyIs P t = some (agg, n)) (w : World) : (isAgg t).run P w = .ok agg w := by
  obtain ⟨d, i, h1, rfl, h2, rfl⟩ := tyIs_parts h
  simp only [isAgg, underlying, Sem.run_bind, run_program, Result.andThen_ok, h1, Sem.run_pure]
  cases d <;> rfl

theorem run_sizeOf_ (h : tyIs P t = some (agg, n)) (w : World) : (sizeOf t).run P w = .ok n w := by
  obtain ⟨d, i, h1, rfl, h2, rfl⟩ := tyIs_parts h
  simp [sizeOf, typeInfo, h2]

theorem run_load_at {w : World} {a : Addr} {v : Value} (h : w.cell? a = some v) (m : Mode) : (load a m).run P w = .ok v w := by
  simp [load, Sem.run, h]

theorem run_loadCellsFrom {w : World} {b o : Nat} : ∀ (vs : List Value) (i : Nat) (acc : Array Value), (∀ j u, vs[j]? = some u → w.cell? ⟨b, o + (i + j), none⟩ = some u) →
    (loadCellsFrom ⟨b, o, none⟩ i vs.length acc).run P w = .ok (acc ++ vs.toArray) w
  | [], i, acc, _ => by simp [loadCellsFrom]
  | v :: vs, i, acc, h => by
    have h0 := h 0 v rfl
    simp only [List.length_cons, loadCellsFrom, Sem.run_bind, add_plain]
    rw [run_load_at (by simpa using h0)]
    simp only [Result.andThen_ok]
    rw [run_loadCellsFrom vs (i + 1) _ (fun j u hj => by have := h (j + 1) u hj; rwa [show i + 1 + j = i + (j + 1) by omega])]
    simp

theorem run_loadCells_ {w : World} {b o : Nat} (vs : List Value) (h : ∀ j u, vs[j]? = some u → w.cell? ⟨b, o + j, none⟩ = some u) : (loadCells ⟨b, o, none⟩ vs.length).run P w = .ok vs.toArray w := by
  have := run_loadCellsFrom (P := P) vs 0 #[] (w := w) (b := b) (o := o) (by simpa using h)
  simpa [loadCells] using this

/-- A variable's value, its cells known. -/
def asV (agg : Bool) (vs : List Value) : Value := if agg then .agg vs.toArray else vs.headD undef

theorem run_loadVar_ {w : World} {b o : Nat} (ht : tyIs P t = some (agg, n)) (vs : List Value) (hl : vs.length = n) (h1 : agg = false → n = 1) (h : ∀ j u, vs[j]? = some u → w.cell? ⟨b, o + j, none⟩ = some u) :
    (loadVar t ⟨b, o, none⟩).run P w = .ok (asV agg vs) w := by
  subst hl
  simp only [loadVar, Sem.run_bind, run_isAgg_ ht, Result.andThen_ok]
  cases agg with
  | true =>
    simp only [if_true, Sem.run_bind, run_sizeOf_ ht, Result.andThen_ok, run_loadCells_ vs h]
    rfl
  | false =>
    have h2 := h1 rfl
    match vs, h2 with
    | [u], _ =>
      simp only [Bool.false_eq_true, if_false]
      rw [run_load_at (by simpa using h 0 u rfl)]
      rfl

theorem heap_setCell_at {w : World} {b o : Nat} {arr : Array Value} {e : TypeId} (hb : w.heap[b]? = some (.cells arr e (0, 0))) (v : Value) : (w.setCell ⟨b, o, none⟩ v).heap[b]? = some (.cells (arr.setIfInBounds o v) e (0, 0)) := by
  simp [World.setCell, Array.getElem?_modify, hb]

theorem heap_setCell_ne {w : World} {b c o : Nat} (h : c ≠ b) (v : Value) : (w.setCell ⟨b, o, none⟩ v).heap[c]? = w.heap[c]? := by
  simp only [World.setCell, Array.getElem?_modify]
  rw [if_neg (fun e => h e.symm)]

/-- A list with a part of it turned. -/
def splice {α : Type} (l : List α) (o : Nat) (ys : List α) : List α := l.take o ++ ys ++ l.drop (o + ys.length)

theorem splice_nil {α : Type} (l : List α) (o : Nat) : splice l o [] = l := by simp [splice]
theorem splice_cons {α : Type} (l : List α) (o : Nat) (y : α) (ys : List α) (h : o < l.length) : splice (l.set o y) (o + 1) ys = splice l o (y :: ys) := by
  simp only [splice, List.length_cons]
  rw [List.take_set, List.drop_set_of_lt (by omega)]
  have e1 : (l.take (o + 1)).set o y = l.take o ++ [y] := by
    rw [List.take_succ_eq_append_getElem h, List.set_append]
    simp [Nat.min_eq_left (Nat.le_of_lt h)]
  rw [e1]
  simp only [List.append_assoc, List.singleton_append, show o + 1 + ys.length = o + (ys.length + 1) by omega]
theorem length_splice {α : Type} (l : List α) (o : Nat) (ys : List α) (h : o + ys.length ≤ l.length) : (splice l o ys).length = l.length := by
  simp [splice]; omega

/-- What a store of cells does to the world: one block is turned. -/
structure Turned (w w' : World) (b : Nat) (arr' : List Value) (e : TypeId) : Prop where
  os : w'.os = w.os
  tape : w'.tape = w.tape
  output : w'.output = w.output
  size : w'.heap.size = w.heap.size
  other : ∀ c, c ≠ b → w'.heap[c]? = w.heap[c]?
  at_ : ∃ arr : Array Value, arr.toList = arr' ∧ w'.heap[b]? = some (.cells arr e (0, 0))

theorem run_storeCells_ {b o : Nat} {e : TypeId} : ∀ (vs : List Value) (i : Nat) (w : World) (arr : Array Value), w.heap[b]? = some (.cells arr e (0, 0)) → (∀ u ∈ vs, u.oneCell' = true) → o + i + vs.length ≤ arr.size →
    ∃ w', (storeCells ⟨b, o, none⟩ vs i).run P w = .ok () w' ∧ Turned w w' b (splice arr.toList (o + i) vs) e
  | [], i, w, arr, hb, _, _ => ⟨w, by simp [storeCells], ⟨rfl, rfl, rfl, rfl, fun _ _ => rfl, ⟨arr, by rw [splice_nil], hb⟩⟩⟩
  | v :: vs, i, w, arr, hb, h1, hl => by
    simp only [List.length_cons] at hl
    have hc : w.cell? ⟨b, o + i, none⟩ = some arr[o + i] := by simp [World.cell?, hb, show o + i < arr.size by omega]
    have hf : w.frozen? ⟨b, o + i, none⟩ = false := by simp [World.frozen?, hb]
    have hs : (store ⟨b, o + i, none⟩ v).run P w = .ok () (w.setCell ⟨b, o + i, none⟩ v) := by
      rw [run_store P w _ v .plain (h1 v (List.mem_cons_self ..)), hc]
      simp [hf]
    obtain ⟨w', hr, ht⟩ := run_storeCells_ (b := b) (o := o) vs (i + 1) (w.setCell ⟨b, o + i, none⟩ v) (arr.setIfInBounds (o + i) v) (heap_setCell_at hb v) (fun u hu => h1 u (List.mem_cons_of_mem _ hu)) (by simp; omega)
    refine ⟨w', ?_, ⟨ht.os, ht.tape, ht.output, ht.size.trans (World.size_setCell ..), fun c hc' => (ht.other c hc').trans (heap_setCell_ne hc' v), ?_⟩⟩
    · simp only [storeCells, Sem.run_bind, add_plain, hs, Result.andThen_ok]
      exact hr
    · obtain ⟨arr', e1, e2⟩ := ht.at_
      refine ⟨arr', ?_, e2⟩
      rw [e1]
      simp only [Array.toList_setIfInBounds, show o + (i + 1) = o + i + 1 by omega]
      exact splice_cons _ _ _ _ (by simp; omega)
end

/-! ### 2. Loads -/
/-- The value of so many cells. -/
def mkv (agg : Bool) (n : Nat) (cs : List AC) : Option AV :=
  if cs.length = n then (if agg then some (.agg cs) else match cs with | [x] => some (.c x) | _ => none) else none

/-- What a load yields. -/
def ldv (P : Program) (R : List Res) (t : TypeId) : AV → Option AV
  | .c (.bp i off) => match R[i]?, tyIs P t with
    | some (.box cs), some (agg, n) => mkv agg n ((cs.drop off).take n)
    | _, _ => none
  | .c (.ep i j off tot) => match R[i]?, tyIs P t with
    | some (.row _ _ rows), some (agg, n) => if rows.length = tot then match rows[j]? with
      | some row => mkv agg n (((row.drop off).take n).map tco)
      | none => none else none
    | _, _ => none
  | .c (.rp ts) => match tyIs P t with
    | some (agg, n) => mkv agg n ((ts.take n).map tc)
    | none => none
  | _ => none

theorem mkv_len {agg : Bool} {n : Nat} {cs : List AC} {y : AV} (h : mkv agg n cs = some y) : cs.length = n ∧ (agg = false → n = 1) := by
  unfold mkv at h
  split at h
  · rename_i h1
    refine ⟨h1, fun he => ?_⟩
    subst he
    simp only [Bool.false_eq_true, if_false] at h
    split at h
    · simpa using h1.symm
    · cases h
  · cases h

theorem mkv_rel {W : Wit} {R : List Res} {w : World} {agg : Bool} {n : Nat} {cs : List AC} {y : AV} {vs : List Value} (h : mkv agg n cs = some y) (ha : AR W R w cs vs) : AVR W R w y (asV agg vs) := by
  unfold mkv at h
  split at h
  · cases agg with
    | true =>
      obtain rfl := Option.some.inj h
      exact ⟨vs, rfl, ha⟩
    | false =>
      simp only [Bool.false_eq_true, if_false] at h
      split at h
      · obtain rfl := Option.some.inj h
        have := ha.length
        match vs, this with
        | [v], _ => exact ha
      · cases h
  · cases h

theorem flatten_row {α : Type} {k : Nat} : ∀ {rows : List (List α)} (_ : ∀ r ∈ rows, r.length = k) {j : Nat} {row : List α}, rows[j]? = some row → (rows.flatten.drop (j * k)).take k = row
  | [], _, j, row, h => by simp at h
  | r :: rows, hk, 0, row, h => by
    obtain rfl : r = row := by simpa using h
    have := hk r (List.mem_cons_self ..)
    simp [← this]
  | r :: rows, hk, j + 1, row, h => by
    have h0 := hk r (List.mem_cons_self ..)
    have := flatten_row (fun x hx => hk x (List.mem_cons_of_mem _ hx)) (show rows[j]? = some row by simpa using h)
    rw [List.flatten_cons, show (j + 1) * k = r.length + j * k by rw [h0, Nat.add_mul]; omega, List.drop_append]
    rw [List.drop_of_length_le (by omega), List.nil_append, show r.length + j * k - r.length = j * k by omega]
    exact this

theorem flatten_len {α : Type} {k : Nat} : ∀ {rows : List (List α)}, (∀ r ∈ rows, r.length = k) → rows.flatten.length = rows.length * k
  | [], _ => by simp
  | r :: rows, hk => by
    rw [List.flatten_cons, List.length_append, flatten_len (fun x hx => hk x (List.mem_cons_of_mem _ hx)), hk r (List.mem_cons_self ..), List.length_cons, Nat.add_mul]
    omega

/-- Where a pointer's cells lie, and what they hold. -/
theorem ldv_cells {P : Program} {R : List Res} {w : World} {W : Wit} {t : TypeId} {x y : AV} {v : Value} (hs : Sep w W R) (hx : AVR W R w x v) (h : ldv P R t x = some y) :
    ∃ agg n b o vs, tyIs P t = some (agg, n) ∧ v = .pointer (some ⟨b, o, none⟩) ∧ vs.length = n ∧ (agg = false → n = 1) ∧ (∀ j u, vs[j]? = some u → w.cell? ⟨b, o + j, none⟩ = some u) ∧ AVR W R w y (asV agg vs) := by
  unfold ldv at h
  split at h
  · rename_i i off
    split at h
    · rename_i cs agg n hR ht
      cases hx with
      | bp h1 h2 h3 _ =>
        obtain ⟨b, e1, e2⟩ := h3 cs hR
        obtain ⟨b', arr, e, f1, f2, f3, f4⟩ := hs.res i _ hR
        rw [e1] at f1
        obtain rfl : b = b' := by cases f1; rfl
        obtain ⟨l1, l2⟩ := mkv_len h
        have hal := ((f4.drop off).take n)
        refine ⟨agg, n, b, off, (arr.toList.drop off).take n, ht, e2, by rw [← hal.length, l1], l2, fun j u hj => ?_, mkv_rel h hal⟩
        rw [List.getElem?_take] at hj
        split at hj
        · rw [List.getElem?_drop] at hj
          simp [World.cell?, f3]
          simpa using hj
        · cases hj
    · cases h
  · rename_i i j off tot
    split at h
    · rename_i e0 k rows agg n hR ht
      split at h
      · rename_i htot
        split at h
        · rename_i row hrow
          cases hx with
          | ep h1 h2 h3 _ =>
            obtain ⟨b, nn, c, e1, e2⟩ := (h3 _ _ _ hR).2 htot
            obtain ⟨f1, f2, cells, G, f3, f4, f5, f6⟩ := hs.res i _ hR
            obtain ⟨l1, l2⟩ := mkv_len h
            obtain ⟨a, c', g1, g2, _, _, g3⟩ := ownsRow_reads f3
            have hpos : 0 < rows.length := by
              rcases Nat.lt_or_ge j rows.length with hj | hj
              · omega
              · rw [List.getElem?_eq_none hj] at hrow; cases hrow
            obtain ⟨b', g4, _, g5⟩ := g3 hpos
            subst g4
            rw [e1] at g1
            obtain rfl : b = b' := by cases g1; rfl
            have hal : AR W R w ((row.drop off).take n |>.map tco) ((((cells.drop (j * k)).take k).drop off).take n) := by
              have hh := ((f4.ar (W := W) (R := R)).drop (j * k)).take k
              rw [← List.map_drop, ← List.map_take, flatten_row f2 hrow] at hh
              have := (hh.drop off).take n
              rw [← List.map_drop, ← List.map_take] at this
              exact this
            refine ⟨agg, n, b, j * k + off, (((cells.drop (j * k)).take k).drop off).take n, ht, e2, by rw [← hal.length, l1], l2, fun q u hq => ?_, mkv_rel h hal⟩
            rw [List.getElem?_take] at hq
            split at hq
            · rw [List.getElem?_drop, List.getElem?_take] at hq
              split at hq
              · rw [List.getElem?_drop] at hq
                have := g5 _ u hq
                rwa [show j * k + off + q = 0 + (j * k + (off + q)) by omega]
              · cases hq
            · cases hq
        · cases h
      · cases h
    · cases h
  · rename_i ts
    split at h
    · rename_i agg n ht
      cases hx with
      | rp b o inner h1 h2 h3 h4 _ =>
        obtain ⟨l1, l2⟩ := mkv_len h
        have hal : AR W R w ((ts.take n).map tc) (inner.take n) := (h3.take n).ar
        refine ⟨agg, n, b, o, inner.take n, ht, h1, by rw [← hal.length, l1], l2, fun j u hj => ?_, mkv_rel h hal⟩
        rw [List.getElem?_take] at hj
        split at hj
        · exact h4 j u hj
        · cases hj
    · cases h
  · cases h

section
variable {P : Program} {N : Nat} {s : Slots} {R : List Res} {K : Slots → List Res → Prop}

theorem L_load {o : Oper} {t : Nat} {x : Operand} {y : AV} (ho : o.op = .load t x) (hy : ldv P R t (ev s x) = some y) : Light P o s R y := fun N a w W hn => by
  obtain ⟨agg, n, b, oo, vs, h1, h2, h3, h4, h5, h6⟩ := ldv_cells hn.sep (hn.ev x) hy
  refine ⟨_, h6, fun w' hb => ?_⟩
  have h5' : ∀ j u, vs[j]? = some u → w'.cell? ⟨b, oo + j, none⟩ = some u := fun j u hj => by
    have := h5 j u hj
    rw [hb.cell (p := ⟨b, oo + j, none⟩) (World.block_lt_of_cell? w _ this)]
    exact this
  simp only [execOp, ho, Instr.loadAt, h2, Instr.sureAddr, Sem.run_bind, Sem.run_pure, Result.andThen_ok, run_loadVar_ h1 vs h3 h4 h5']

end
end Go.Proofs.Ytkaikajjhhnifaa.E
