/- Words of the session's own, sixteenth part: a row begun by append, a row written out, a callee that turns rows of its caller's. -/
import Derived.Test.YtkaikajjhhnifaaE15
namespace Go.Proofs.Ytkaikajjhhnifaa.E
open Go Go.RowKit
set_option linter.unusedVariables false
set_option linter.unusedSimpArgs false

section
variable {P : Program} {N : Nat} {s : Slots} {R : List Res} {K : Slots → List Res → Prop}

/-- append to nil: a row begins. -/
theorem H_append_nil {o : Oper} {d t e k bytes : Nat} {x y : Operand} {bb : Bool} {zs : List AC} {news : List (List T)} (ho : o.op = .call { callee := .builtin .append, args := #[x, y], argTypes := #[t, t] }) (hd : o.dst = some d) (hN : d < N)
    (ht : isSlice P t = some e) (hty : tyIs P e = some (bb, k)) (hby : (P.info? e).map (·.bytes) = some bytes) (hz : zav P e = some zs) (hzl : zs.length = k ∧ 0 < k) (hx : ev s x = .c (.sc (.slice none 0 0)))
    (hy : E.lend R (ev s y) = .c (.ro news)) (hnews : ∀ r ∈ news, r.length = k ∧ r.all isSc = true) (hsz : news.length ≤ 9223372036854775807 ∧ news.length * bytes ≤ 140737488355328)
    (h : K ((d, .c (.sl R.length 0 news.length news.length)) :: s) (R ++ [.row e k news])) : Heavy P N o s R K := by
  intro Q a w W hn'
  obtain ⟨ad, c, inner, e1, e2, e3, e4, e5⟩ := src_of hn' hy hnews
  obtain ⟨inf, z, z1, z2, z3, z4, rfl, z6⟩ := by_parts hty hby hz
  have hzk : z.cells.size = k := by have := hzl.1; simpa using this
  have hv : a.eval x = .slice none 0 0 := hn'.sc hx
  have f3 : w.ownsRow 0 e k (.slice none 0 0) 0 [] := World.ownsRow_nil w 0 e k
  have hrun : ∀ v' w', (Builtin.append_ #[t, t] o.type #[.slice none 0 0, .slice ad news.length c]).run P w = .ok v' w' → (execOp a.eval o).run P w = .ok (.value v') w' := fun v' w' hr => by
    simp only [execOp, ho, resolve, Sem.run_bind, Sem.run_pure, Result.andThen_ok, invoke, builtin]
    simp only [List.map_toArray, List.map_cons, List.map_nil, hv, e1, hr, Result.andThen_ok]
  have key : ∃ v' w', (Builtin.append_ #[t, t] o.type #[.slice none 0 0, .slice ad news.length c]).run P w = .ok v' w' ∧ w'.ownsRow 0 e k v' news.length inner ∧ w.grownBy w' none ∧ (∀ b, v'.ownBlock = some b → w.heap.size ≤ b) := by
    by_cases h0 : news = []
    · subst h0
      obtain rfl : inner = [] := List.eq_nil_of_length_eq_zero (by simpa using e2)
      exact ⟨_, w, run_append_zero (isSlice_of ht) hty f3 ad c, f3, ⟨rfl, rfl, rfl, Nat.le_refl _, fun _ _ _ => rfl⟩, fun b hb => by cases hb⟩
    · obtain ⟨b, oo, rfl, hc⟩ := e3 (List.length_pos_iff.2 h0)
      obtain ⟨v', w', r1, r2, r3, r4, r5⟩ := run_append_own_at (P := P) w 0 t o.type e inf z k bytes (isSlice_of ht) z1 z2 z3 z4 hzk hzl.2 (.slice none 0 0) 0 [] f3 ⟨b, oo, none⟩ news.length c inner e2 (fun j u hj => by rw [add_plain]; exact hc j u hj) e4 (by unfold maxLen; omega) (by rw [Nat.zero_add]; exact hsz.2) (Nat.zero_le _)
      refine ⟨v', w', r1, by simpa using r2, r3, fun b hb => ?_⟩
      rcases r5 with r5 | r5
      · rw [r5] at hb; cases hb
      · rw [r5] at hb; cases hb; exact Nat.le_refl _
  obtain ⟨v', w', r1, r2, r3, r4⟩ := key
  obtain ⟨W', k1, k2, k3⟩ := hn'.sep.row (rows := news) (cells := inner) (k := k) (e := e) (v := v') r3.os r3.tape r3.output r3.size (fun b hb => r3.block b hb (by simp)) hzl.2 (fun r hr => (hnews r hr).1) r2 r4 (e5 w')
  unfold Oper.wp
  rw [hrun _ _ r1, Oper.upon_value, hd]
  exact ⟨⟨r3.os, r3.tape, r3.output, r3.size, fun b hb => r3.block b hb (by simp)⟩, _, _, W', h, (hn'.next k1 k2).put hN (sl_whole (e := e) (k := k) (rows := news) (by simp) rfl k3 (by rcases r2.2 with ⟨rfl, _⟩ | ⟨g, cap, cur, rfl, _⟩ <;> rfl) k2), k1⟩

/-! ### A row written out -/
def chunk (k : Nat) : Nat → List Value → List (List T)
  | 0, _ => []
  | n + 1, xs => (xs.take k).map T.sc :: chunk k n (xs.drop k)

theorem chunk_parts {k : Nat} : ∀ (n : Nat) (xs : List Value), xs.length = n * k → (chunk k n xs).length = n ∧ (∀ r ∈ chunk k n xs, r.length = k) ∧ (chunk k n xs).flatten = xs.map T.sc
  | 0, xs, h => by
    obtain rfl : xs = [] := List.eq_nil_of_length_eq_zero (by simpa using h)
    simp [chunk]
  | n + 1, xs, h => by
    rw [Nat.add_mul, Nat.one_mul] at h
    obtain ⟨h1, h2, h3⟩ := chunk_parts (k := k) n (xs.drop k) (by rw [List.length_drop]; omega)
    refine ⟨by simp [chunk, h1], fun r hr => ?_, ?_⟩
    · rcases List.mem_cons.1 hr with rfl | hr
      · simp; omega
      · exact h2 r hr
    · show ((xs.take k).map T.sc) ++ (chunk k n (xs.drop k)).flatten = _
      rw [h3, ← List.map_append, List.take_append_drop]

theorem AR.rep {W : Wit} {R : List Res} {w : World} {cs : List AC} {vs : List Value} (h : AR W R w cs vs) : ∀ n, AR W R w (List.replicate n cs).flatten (List.replicate n vs).flatten
  | 0 => (AR.nil : AR W R w [] [])
  | n + 1 => by
    rw [List.replicate_succ, List.replicate_succ, List.flatten_cons, List.flatten_cons]
    exact h.append (AR.rep h n)

theorem H_bslice {o : Oper} {d t e k n : Nat} {bb : Bool} {zs : List AC} {parts : Array (Nat × Operand)} {ps : List (Nat × List AC)} {ys : List AC} {xs : List Value} (ho : o.op = .buildSlice t n parts) (hd : o.dst = some d) (hN : d < N)
    (ht : isSlice P t = some e) (hty : tyIs P e = some (bb, k)) (hz : zav P e = some zs) (hzl : zs.length = k ∧ 0 < k) (hn : n * k ≤ 16777216) (hp : partsOf s parts.toList = some ps)
    (hf : fillA ((List.range n).map fun i => (i * k, k)) (List.replicate n zs).flatten ps = some ys) (hm : ys.mapM act = some xs) (hl : xs.length = n * k)
    (h : K ((d, .c (.sl R.length 0 n n)) :: s) (R ++ [.row e k (chunk k n xs)])) : Heavy P N o s R K := by
  intro Q a w W hn'
  obtain ⟨z, hz1, hz2⟩ : ∃ z : Value, (∀ w', (zeroValue e).run P w' = .ok z w') ∧ zs = z.cells.toList.map AC.sc ∧ z.cells.toList.all (·.oneCell') = true := by
    obtain ⟨dd, i, h1, _, h2, h3⟩ := tyIs_parts hty
    unfold zav at hz
    rw [h2] at hz
    simp only [Option.bind_some] at hz
    cases hi : i.zero with
    | none => rw [hi] at hz; cases hz
    | some z =>
      rw [hi] at hz
      simp only at hz
      split at hz
      · rename_i ha
        exact ⟨z, fun w' => by simp [zeroValue, typeInfo, h2, hi], (Option.some.inj hz).symm, ha⟩
      · cases hz
  obtain ⟨rfl, hz3⟩ := hz2
  have hzk : z.cells.size = k := by have := hzl.1; simpa using this
  have hcells : (madeCells z.cells (n * k)).toList = (List.replicate n z.cells.toList).flatten := by rw [← hzk]; exact madeCells_flat _ _
  have har : AR W R w (List.replicate n (z.cells.toList.map AC.sc)).flatten (madeCells z.cells (n * k)).toList := by
    rw [hcells]
    exact (AR.scs hz3).rep n
  obtain ⟨out, k1, k2⟩ := fill_run (place := fun i => some (i * k, k)) (fun i x hx => by
    rw [List.getElem?_map] at hx
    cases hr : (List.range n)[i]? with
    | none => rw [hr] at hx; cases hx
    | some j =>
      rw [hr] at hx
      obtain rfl : i = j := by
        obtain ⟨h1, h2⟩ := List.getElem?_eq_some_iff.1 hr
        simpa using h2
      exact hx) hn' hp hf har
  obtain ⟨hxs, hone⟩ := mapM_act hm k2
  obtain ⟨c1, c2, c3⟩ := chunk_parts n xs hl
  have hsz : out.size = n * k := by rw [← Array.length_toList, hxs, hl]
  have hown : (w.alloc (.cells out e)).ownsRow 0 e k (.slice (some ⟨w.heap.size, 0, none⟩) n n) (chunk k n xs).length xs := by
    have := World.ownsRow_lit (base := 0) (size := k) (e := e) w out n (Nat.zero_le _) (by have h0 := hzl.2; have : n ≤ n * k := Nat.le_mul_of_pos_right n h0; unfold maxLen; omega) hsz
    rw [hxs] at this
    rw [c1]; exact this
  obtain ⟨W', m1, m2, m3⟩ := hn'.sep.row (w' := w.alloc (.cells out e)) (rows := chunk k n xs) (cells := xs) (k := k) (e := e) (v := .slice (some ⟨w.heap.size, 0, none⟩) n n) rfl rfl rfl (by simp) (heap_alloc_lt w _) hzl.2 c2 hown (fun b hb => by cases hb; exact Nat.le_refl _) (by rw [c3]; exact Ow.scv hone)
  unfold Oper.wp
  have hr : (execOp a.eval o).run P w = .ok (.value (.slice (some ⟨w.heap.size, 0, none⟩) n n)) (w.alloc (.cells out e)) := by
    have hpt : (parts.map fun p => (p.1, a.eval p.2)).toList = parts.toList.map fun p => (p.1, a.eval p.2) := by simp
    have hle : ¬ n * k > 2 ^ 24 := by omega
    simp only [execOp, ho, Instr.buildSlice, Sem.run_bind, run_underlying_ (isSlice_of ht), Result.andThen_ok, run_sizeOf_ hty, if_neg hle, Sem.run_pure]
    by_cases h0 : n * k = 0
    · have e0 : (Array.range (n * k)).map (fun i => (#[] : Array Value)[i % (#[] : Array Value).size]!) = madeCells z.cells (n * k) := by rw [h0]; apply Array.ext'; simp [madeCells]
      simp only [if_pos h0, Sem.run_pure, Result.andThen_ok, e0, hpt, k1, Sem.run_bind]
      rfl
    · have e0 : (Array.range (n * k)).map (fun i => z.cells[i % z.cells.size]!) = madeCells z.cells (n * k) := rfl
      simp only [if_neg h0, Sem.run_bind, hz1, Sem.run_pure, Result.andThen_ok, e0, hpt, k1]
      rfl
  rw [hr, Oper.upon_value, hd]
  exact ⟨⟨rfl, rfl, rfl, by simp, fun b hb => heap_alloc_lt w _ b hb⟩, _, _, W', h, (hn'.next m1 m2).put hN (sl_whole (e := e) (k := k) (rows := chunk k n xs) (by simp) c1 m3 rfl m2), m1⟩

/-- The same, where nobody turns it: it is only read. -/
theorem V_bslice_ro {o : Oper} {t e k n : Nat} {KV : AV → List Res → Prop} {bb : Bool} {zs : List AC} {parts : Array (Nat × Operand)} {ps : List (Nat × List AC)} {ys : List AC} {xs : List Value} (ho : o.op = .buildSlice t n parts)
    (ht : isSlice P t = some e) (hty : tyIs P e = some (bb, k)) (hz : zav P e = some zs) (hzl : zs.length = k ∧ 0 < k) (hn : n * k ≤ 16777216) (hp : partsOf s parts.toList = some ps)
    (hf : fillA ((List.range n).map fun i => (i * k, k)) (List.replicate n zs).flatten ps = some ys) (hm : ys.mapM act = some xs) (hl : xs.length = n * k)
    (h : KV (.c (.ro (chunk k n xs))) R) : HeavyV P o s R KV := by
  intro N Q a w W hn'
  obtain ⟨z, hz1, hz2⟩ : ∃ z : Value, (∀ w', (zeroValue e).run P w' = .ok z w') ∧ zs = z.cells.toList.map AC.sc ∧ z.cells.toList.all (·.oneCell') = true := by
    obtain ⟨dd, i, h1, _, h2, h3⟩ := tyIs_parts hty
    unfold zav at hz
    rw [h2] at hz
    simp only [Option.bind_some] at hz
    cases hi : i.zero with
    | none => rw [hi] at hz; cases hz
    | some z =>
      rw [hi] at hz
      simp only at hz
      split at hz
      · rename_i ha
        exact ⟨z, fun w' => by simp [zeroValue, typeInfo, h2, hi], (Option.some.inj hz).symm, ha⟩
      · cases hz
  obtain ⟨rfl, hz3⟩ := hz2
  have hzk : z.cells.size = k := by have := hzl.1; simpa using this
  have hcells : (madeCells z.cells (n * k)).toList = (List.replicate n z.cells.toList).flatten := by rw [← hzk]; exact madeCells_flat _ _
  have har : AR W R w (List.replicate n (z.cells.toList.map AC.sc)).flatten (madeCells z.cells (n * k)).toList := by
    rw [hcells]
    exact (AR.scs hz3).rep n
  obtain ⟨out, k1, k2⟩ := fill_run (place := fun i => some (i * k, k)) (fun i x hx => by
    rw [List.getElem?_map] at hx
    cases hr : (List.range n)[i]? with
    | none => rw [hr] at hx; cases hx
    | some j =>
      rw [hr] at hx
      obtain rfl : i = j := by
        obtain ⟨h1, h2⟩ := List.getElem?_eq_some_iff.1 hr
        simpa using h2
      exact hx) hn' hp hf har
  obtain ⟨hxs, hone⟩ := mapM_act hm k2
  obtain ⟨c1, c2, c3⟩ := chunk_parts n xs hl
  have hsz : out.size = n * k := by rw [← Array.length_toList, hxs, hl]
  have hown : (w.alloc (.cells out e)).ownsRow 0 e k (.slice (some ⟨w.heap.size, 0, none⟩) n n) (chunk k n xs).length xs := by
    have := World.ownsRow_lit (base := 0) (size := k) (e := e) w out n (Nat.zero_le _) (by have h0 := hzl.2; have : n ≤ n * k := Nat.le_mul_of_pos_right n h0; unfold maxLen; omega) hsz
    rw [hxs] at this
    rw [c1]; exact this
  have tr : Trans w W R (w.alloc (.cells out e)) W R := ⟨rfl, rfl, rfl, by simp, fun b hb => heap_alloc_lt w _ b hb.1, fun i b hb => .inl ⟨i, hb⟩, fun i => Goes.refl _ _⟩
  have sp : Sep (w.alloc (.cells out e)) W R :=
    ⟨fun i r hr => (hn'.sep.res i r hr).next tr fun b hb => heap_alloc_lt w _ b (hn'.sep.lt i b hb), hn'.sep.out, hn'.sep.gone, hn'.sep.apart, fun i b hb => Nat.lt_of_lt_of_le (hn'.sep.lt i b hb) (by simp)⟩
  have hval : AVR W R (w.alloc (.cells out e)) (.c (.ro (chunk k n xs))) (.slice (some ⟨w.heap.size, 0, none⟩) n n) := by
    have hrd : Rd (w.alloc (.cells out e)) (W.out (w.alloc (.cells out e))) (chunk k n xs).flatten xs := by
      rw [c3]; exact (Ow.scv hone).rd fun b hb => hb.elim
    have := Rd.sl (w := w.alloc (.cells out e)) (O := W.out (w.alloc (.cells out e))) (rows := chunk k n xs) (a := some ⟨w.heap.size, 0, none⟩) (c := n) (inner := xs) (ts := []) (vs := []) k ⟨by rw [c1]; exact Nat.le_refl _, by have h0 := hzl.2; have : n ≤ n * k := Nat.le_mul_of_pos_right n h0; unfold maxLen; omega⟩ hzl.2 c2 (fun _ => ⟨w.heap.size, 0, rfl, ⟨by simp, fun i hi => Nat.lt_irrefl _ (hn'.sep.lt i _ hi)⟩, fun j u hj => by
      have hj' : out[j]? = some u := by rw [← Array.getElem?_toList, hxs]; exact hj
      have hc : (w.alloc (.cells out e)).cell? ⟨w.heap.size, 0 + j, none⟩ = out[0 + j]? := by unfold World.cell?; rw [heap_alloc_self]; rfl
      rw [hc, Nat.zero_add]; exact hj'⟩) hrd .nil
    rw [c1] at this
    exact AR.ro this .nil
  unfold Oper.wp
  have hr : (execOp a.eval o).run P w = .ok (.value (.slice (some ⟨w.heap.size, 0, none⟩) n n)) (w.alloc (.cells out e)) := by
    have hpt : (parts.map fun p => (p.1, a.eval p.2)).toList = parts.toList.map fun p => (p.1, a.eval p.2) := by simp
    have hle : ¬ n * k > 2 ^ 24 := by omega
    simp only [execOp, ho, Instr.buildSlice, Sem.run_bind, run_underlying_ (isSlice_of ht), Result.andThen_ok, run_sizeOf_ hty, if_neg hle, Sem.run_pure]
    by_cases h0 : n * k = 0
    · have e0 : (Array.range (n * k)).map (fun i => (#[] : Array Value)[i % (#[] : Array Value).size]!) = madeCells z.cells (n * k) := by rw [h0]; apply Array.ext'; simp [madeCells]
      simp only [if_pos h0, Sem.run_pure, Result.andThen_ok, e0, hpt, k1, Sem.run_bind]
      rfl
    · have e0 : (Array.range (n * k)).map (fun i => z.cells[i % z.cells.size]!) = madeCells z.cells (n * k) := rfl
      simp only [if_neg h0, Sem.run_bind, hz1, Sem.run_pure, Result.andThen_ok, e0, hpt, k1]
      rfl
  rw [hr, Oper.upon_value]
  exact ⟨⟨rfl, rfl, rfl, by simp, fun b hb => heap_alloc_lt w _ b hb⟩, _, R, W, _, h, rfl, hval, tr, sp⟩
theorem H_bslice_ro {o : Oper} {d t e k n : Nat} {bb : Bool} {zs : List AC} {parts : Array (Nat × Operand)} {ps : List (Nat × List AC)} {ys : List AC} {xs : List Value} (ho : o.op = .buildSlice t n parts) (hd : o.dst = some d) (hN : d < N)
    (ht : isSlice P t = some e) (hty : tyIs P e = some (bb, k)) (hz : zav P e = some zs) (hzl : zs.length = k ∧ 0 < k) (hn : n * k ≤ 16777216) (hp : partsOf s parts.toList = some ps)
    (hf : fillA ((List.range n).map fun i => (i * k, k)) (List.replicate n zs).flatten ps = some ys) (hm : ys.mapM act = some xs) (hl : xs.length = n * k)
    (h : K ((d, .c (.ro (chunk k n xs))) :: s) R) : Heavy P N o s R K :=
  HeavyV.heavy (fun d' hd' => by rw [hd] at hd'; cases hd'; exact hN) (V_bslice_ro ho ht hty hz hzl hn hp hf hm hl (by rw [hd]; exact h))
end

/-! ### A callee that turns rows of its caller's -/
theorem AR.tops {W : Wit} {R : List Res} {w : World} {cs : List AC} {vs : List Value} (h : AR W R w cs vs) : AC.top.tops cs ≤ R.length := by
  induction h with
  | nil => exact Nat.zero_le _
  | sc _ _ ih => simpa [AC.top.tops, AC.top] using ih
  | any _ _ ih => simpa [AC.top.tops, AC.top] using ih
  | ro _ _ ih => simpa [AC.top.tops, AC.top] using ih
  | rp _ _ _ _ _ _ _ _ ih => simpa [AC.top.tops, AC.top] using ih
  | sl _ h2 _ _ ih => simp only [AC.top.tops, AC.top]; omega
  | bp _ h2 _ _ ih => simp only [AC.top.tops, AC.top]; omega
  | ep _ h2 _ _ ih => simp only [AC.top.tops, AC.top]; omega
  | fn _ _ ih1 ih2 => simp only [AC.top.tops, AC.top]; omega

mutual
theorem ren_id {n : Nat} {σ : List Nat} : ∀ (c : AC), c.top ≤ n → c.ren n σ = c
  | .sc _, _ => rfl
  | .ro _, _ => rfl
  | .rp _, _ => rfl
  | .any, _ => rfl
  | .sl i _ _ _, h => by simp only [AC.top] at h; simp only [AC.ren, show i < n by omega, if_true]
  | .bp i _, h => by simp only [AC.top] at h; simp only [AC.ren, show i < n by omega, if_true]
  | .ep i _ _ _, h => by simp only [AC.top] at h; simp only [AC.ren, show i < n by omega, if_true]
  | .fn f caps, h => by simp only [AC.top] at h; simp only [AC.ren, rens_id (n := n) (σ := σ) caps h]
theorem rens_id {n : Nat} {σ : List Nat} : ∀ (cs : List AC), AC.top.tops cs ≤ n → AC.ren.rens n σ cs = cs
  | [], _ => rfl
  | c :: cs, h => by
    simp only [AC.top.tops] at h
    simp only [AC.ren.rens, ren_id (n := n) (σ := σ) c (by omega), rens_id (n := n) (σ := σ) cs (by omega)]
end

/-- Are the variables as they were? -/
def sameBox (n : Nat) (R R' : List Res) : Prop := n ≤ R'.length ∧ ∀ i cs, i < n → R'[i]? = some (.box cs) → R[i]? = some (.box cs)

def RetM (P : Program) (rs : List ResultVar) (R0 : List Res) (Q : AV → List Res → Prop) : Exit → Slots → List Res → Prop
  | .normal, s, R => ∃ y, resv P R s rs = some y ∧ sameBox R0.length R0 R ∧ Q (y.ren R0.length []) (R.take R0.length)
  | .ret, s, R => ∃ y, resv P R s rs = some y ∧ sameBox R0.length R0 R ∧ Q (y.ren R0.length []) (R.take R0.length)
  | _, _, _ => False

theorem E_fnM {P : Program} {f : FuncId} {fn : Func} {c : Code} {args : List AV} {R : List Res} {Q : AV → List Res → Prop} (hf : P.funcs[f]? = some fn) (hb : fn.body = some c) (ha : args.length ≤ fn.ntmps)
    (h : ECode P fn.ntmps c (slotsOf 0 args) R (RetM P fn.results.toList R Q)) : EFn P f args R Q := by
  intro w W vals hv hs
  refine E_fn (R := R) (Q := Q) hf hb ha (?_ : ECode P fn.ntmps c (slotsOf 0 args) R _) w W vals hv hs
  refine h.mono fun e s' R' hq => ?_
  have fin : (∃ y, resv P R' s' fn.results.toList = some y ∧ sameBox R.length R R' ∧ Q (y.ren R.length []) (R'.take R.length)) → ∃ y σ, resv P R' s' fn.results.toList = some y ∧ okσ R.length R' σ = true ∧ Q (y.ren R.length σ) (reR R.length σ R') := by
    rintro ⟨y, h1, ⟨h2, h3⟩, h4⟩
    refine ⟨y, [], h1, rfl, ?_⟩
    have : reR R.length [] R' = R'.take R.length := by
      unfold reR
      rw [List.map_nil, List.append_nil]
      apply List.ext_getElem?
      intro i
      rw [List.getElem?_map]
      cases hi : (R'.take R.length)[i]? with
      | none => rfl
      | some r =>
        have hlt : i < R.length := by
          rw [List.getElem?_take] at hi
          split at hi
          · assumption
          · cases hi
        rw [List.getElem?_take, if_pos hlt] at hi
        cases r with
        | box cs =>
          obtain ⟨b, arr, e, _, _, _, har⟩ := hs.res i _ (h3 i cs hlt hi)
          simp only [Option.map_some, Res.ren, rens_id cs har.tops]
        | row e k rows => rfl
        | gone => rfl
    rw [this]
    exact h4
  cases e with
  | normal => exact fin hq
  | ret => exact fin hq
  | exit id => exact hq.elim
  | goto l => exact hq.elim
  | panic ch => exact hq.elim
  | outgrown => exact hq.elim

end Go.Proofs.Ytkaikajjhhnifaa.E
