/- Words of the session's own, fifteenth part: rows made longer, rows written out; a callee that turns rows. -/
import Derived.Test.YtkaikajjhhnifaaE14
namespace Go.Proofs.Ytkaikajjhhnifaa.E
open Go Go.RowKit
set_option linter.unusedVariables false
set_option linter.unusedSimpArgs false

section
variable {P : Program} {N : Nat} {s : Slots} {R : List Res} {K : Slots → List Res → Prop}

/-! ### 1. append -/
theorem run_append_zero {w : World} {t ty e k : Nat} {b : Bool} (ht : P.underlying t = some (.slice e)) (hty : tyIs P e = some (b, k)) {v : Value} {n : Nat} {xs : List Value} (hown : w.ownsRow 0 e k v n xs) (a : Option Addr) (c : Nat) :
    (Builtin.append_ #[t, t] ty #[v, .slice a 0 c]).run P w = .ok v w := by
  obtain ⟨d, i, h1, _, h2, h3⟩ := tyIs_parts hty
  rcases hown.2 with ⟨rfl, rfl⟩ | ⟨g, cap, cur, rfl, _, _, hnc, _⟩
  · cases a <;> simp [Builtin.append_, run_underlying ht, sizeOf, typeInfo, h2, Builtin.lenOf, Builtin.firstCells, loadCells, loadCellsFrom]
  · cases a <;> simp [Builtin.append_, run_underlying ht, sizeOf, typeInfo, h2, Builtin.lenOf, Builtin.firstCells, hnc, storeCells, loadCells, loadCellsFrom]

/-- What is appended, read. -/
theorem src_of {a : Act} {w : World} {W : Wit} {y : Operand} {news : List (List T)} {k : Nat} (hn : Now N s R a w W) (hy : E.lend R (ev s y) = .c (.ro news)) (hnews : ∀ r ∈ news, r.length = k ∧ r.all isSc = true) :
    ∃ ad c inner, a.eval y = .slice ad news.length c ∧ inner.length = news.length * k ∧ (0 < news.length → ∃ b o, ad = some ⟨b, o, none⟩ ∧ ∀ j u, inner[j]? = some u → w.cell? ⟨b, o + j, none⟩ = some u) ∧
      (∀ u ∈ inner, u.oneCell' = true) ∧ (∀ w', Ow w' news.flatten inner (fun _ => False)) := by
  have hv := (hn.ev y).lend hn.sep
  rw [hy] at hv
  have h1 : AR W0 [] w [.ro news] [a.eval y] := hv
  cases h1 with
  | ro h2 _ =>
    generalize hq : a.eval y = q at h2
    cases h2 with
    | @sl rows ad c inner ts vs k' g1 g2 g3 g4 g5 g6 =>
      refine ⟨ad, c, inner, rfl, ?_, fun hp => ?_, g5.one, fun w' => ?_⟩
      · rw [← g5.length, flatten_len (k := k) (fun r hr => (hnews r hr).1)]
      · obtain ⟨b, o, e, _, hc⟩ := g4 hp
        exact ⟨b, o, e, hc⟩
      · have hall : news.flatten.all isSc = true := by
          rw [List.all_eq_true]
          intro x hx
          obtain ⟨r, hr, hx⟩ := List.mem_flatten.1 hx
          exact List.all_eq_true.1 (hnews r hr).2 x hx
        have := Ow.scs g5 hall
        exact this.mono fun b hb => hb.elim

theorem EOp_append {o : Oper} {d t e k bytes i n : Nat} {x y : Operand} {bb : Bool} {zs : List AC} {rows news : List (List T)} (ho : o.op = .call { callee := .builtin .append, args := #[x, y], argTypes := #[t, t] }) (hd : o.dst = some d) (hN : d < N)
    (ht : isSlice P t = some e) (hty : tyIs P e = some (bb, k)) (hby : (P.info? e).map (·.bytes) = some bytes) (hz : zav P e = some zs) (hzl : zs.length = k ∧ 0 < k) (hx : ev s x = .c (.sl i 0 n n)) (hR : R[i]? = some (.row e k rows)) (hn : rows.length = n)
    (hy : E.lend R (ev s y) = .c (.ro news)) (hnews : ∀ r ∈ news, r.length = k ∧ r.all isSc = true) (hsz : n + news.length ≤ 9223372036854775807 ∧ (n + news.length) * bytes ≤ 140737488355328)
    (h : K ((d, .c (.sl i 0 (n + news.length) (n + news.length))) :: s) (R.set i (.row e k (rows ++ news)))) : EOp P N o s R K := by
  intro Q a w W hn'
  have hi : i < R.length := by
    rcases Nat.lt_or_ge i R.length with h' | h'
    · exact h'
    · rw [List.getElem?_eq_none h'] at hR; cases hR
  obtain ⟨ad, c, inner, e1, e2, e3, e4, e5⟩ := src_of hn' hy hnews
  obtain ⟨inf, z, z1, z2, z3, z4, rfl, z6⟩ := by_parts hty hby hz
  have hzk : z.cells.size = k := by have := hzl.1; simpa using this
  have hxv := hn'.ev x
  rw [hx] at hxv
  obtain ⟨f1, f2, cells, G, f3, f4, f5, f6⟩ := hn'.sep.res i _ hR
  have hv : a.eval x = W.hs i := by
    cases hxv with
    | sl h1 h2 h3 _ =>
      obtain ⟨ad', n', c', k1, k2, k3⟩ := (h3 _ _ _ hR).2 hn
      obtain ⟨ad2, c2, g1, g2, g3, _, g4⟩ := ownsRow_reads f3
      rcases k3 with k3 | ⟨rfl, h0, _⟩
      · rw [k1] at g1
        obtain ⟨rfl, rfl, rfl⟩ : ad' = ad2 ∧ n' = rows.length ∧ c' = c2 := by cases g1; exact ⟨rfl, rfl, rfl⟩
        rw [k3, k1, hn]
        simp only [Nat.zero_mul, Nat.sub_zero]
        congr 1
        cases ad' with
        | none => rfl
        | some q =>
          rcases f3.2 with ⟨g5, _⟩ | ⟨g, cap, cur, g5, _⟩
          · rw [k1] at g5; cases g5
          · rw [k1] at g5
            have : q = ⟨g, 0, none⟩ := by cases g5; rfl
            rw [this]; rfl
      · omega
  have hrun : ∀ v' w', (Builtin.append_ #[t, t] o.type #[W.hs i, .slice ad news.length c]).run P w = .ok v' w' → (execOp a.eval o).run P w = .ok (.value v') w' := fun v' w' hr => by
    simp only [execOp, ho, resolve, Sem.run_bind, Sem.run_pure, Result.andThen_ok, invoke, builtin]
    simp only [List.map_toArray, List.map_cons, List.map_nil, hv, e1, hr, Result.andThen_ok]
  unfold Oper.wp
  by_cases h0 : news = []
  · subst h0
    rw [hrun _ _ (run_append_zero (isSlice_of ht) hty f3 ad c), Oper.upon_value, hd]
    have e0 : R.set i (.row e k (rows ++ [])) = R := by
      rw [List.append_nil]
      apply List.ext_getElem?
      intro j
      by_cases hj : i = j
      · subst hj; rw [List.getElem?_set_self hi, hR]
      · rw [List.getElem?_set_ne hj]
    rw [e0] at h
    exact ⟨_, R, W, h, hn'.put hN (by
      show AVR W R w (.c (.sl i 0 (n + 0) (n + 0))) (W.hs i)
      rw [← hv]; exact hxv), .refl ..⟩
  · have hpos : 0 < news.length := List.length_pos_iff.2 h0
    obtain ⟨b, oo, rfl, hc⟩ := e3 hpos
    obtain ⟨v', w', r1, r2, r3, r4, r5⟩ := run_append_own_at (P := P) w 0 t o.type e inf z k bytes (isSlice_of ht) z1 z2 z3 z4 hzk hzl.2 (W.hs i) rows.length cells f3 ⟨b, oo, none⟩ news.length c inner e2 (fun j u hj => by rw [add_plain]; exact hc j u hj) e4 (by rw [hn]; unfold maxLen; omega) (by rw [hn]; exact hsz.2) (Nat.zero_le _)
    rw [hrun _ _ r1, Oper.upon_value, hd]
    have hGlt : ∀ b, G b → b < w.heap.size := fun b hb => hn'.sep.lt i b ((f6 b).2 (.inr hb))
    let W' : Wit := ⟨fun j => if j = i then v' else W.hs j, fun j => if j = i then (fun b => v'.ownBlock = some b ∨ G b) else W.fs j⟩
    have wh : W'.hs i = v' := by simp [W']
    have wf : W'.fs i = fun b => v'.ownBlock = some b ∨ G b := by simp [W']
    have wh' : ∀ j, j ≠ i → W'.hs j = W.hs j := fun j hj => by simp [W', hj]
    have wf' : ∀ j, j ≠ i → W'.fs j = W.fs j := fun j hj => by simp [W', hj]
    have hblk : ∀ c, c < w.heap.size → ¬ W.fs i c → w'.heap[c]? = w.heap[c]? := fun c hc1 hc2 => r3.block c hc1 fun e => hc2 ((f6 c).2 (.inl e.symm))
    have hvlt : ∀ b, v'.ownBlock = some b → W.fs i b ∨ w.heap.size ≤ b := fun b hb => by
      rcases r5 with r5 | r5
      · rw [r5] at hb; exact .inl ((f6 b).2 (.inl hb))
      · rw [r5] at hb; cases hb; exact .inr (Nat.le_refl _)
    have tr : Trans w W R w' W' (R.set i (.row e k (rows ++ news))) := by
      refine ⟨r3.os, r3.tape, r3.output, r3.size, fun c hc' => hblk c hc'.1 (hc'.2 i), fun j c hj => ?_, fun j => ?_⟩
      · by_cases e : j = i
        · subst e
          rw [wf] at hj
          rcases hj with hj | hj
          · rcases hvlt c hj with h' | h'
            · exact .inl ⟨_, h'⟩
            · exact .inr h'
          · exact .inl ⟨_, (f6 c).2 (.inr hj)⟩
        · rw [wf' j e] at hj; exact .inl ⟨j, hj⟩
      · by_cases e' : i = j
        · subst e'
          rw [List.getElem?_set_self hi, hR]
          exact ⟨rfl, rfl, by simp, fun e => by simp at e; exact absurd e h0⟩
        · rw [List.getElem?_set_ne e', wh' j (Ne.symm e')]
          exact Goes.refl _ _
    have hres : ResRel w' W' (R.set i (.row e k (rows ++ news))) v' (fun b => v'.ownBlock = some b ∨ G b) (.row e k (rows ++ news)) := by
      refine ⟨f1, fun r hr => by rcases List.mem_append.1 hr with hr | hr; exact f2 r hr; exact (hnews r hr).1, cells ++ inner, G, by rw [List.length_append]; exact r2, ?_, fun b hb hg => ?_, fun b => Iff.rfl⟩
      · rw [List.flatten_append]
        have hm : Ow w' rows.flatten cells G := f4.mono fun b hb => r3.block b (hGlt b hb) fun e => f5 b e.symm hb
        obtain ⟨H, k1, k2⟩ := hm.append (e5 w') (fun b _ h => h)
        have : H = G := by funext b; exact propext ((k2 b).trans (by simp))
        rw [this] at k1; exact k1
      · rcases r5 with r5 | r5
        · rw [r5] at hb; exact f5 b hb hg
        · rw [r5] at hb; cases hb; exact absurd (hGlt _ hg) (Nat.lt_irrefl _)
    have sp : Sep w' W' (R.set i (.row e k (rows ++ news))) :=
      hn'.sep.step tr i (fun j h1 _ => by simpa using h1) (fun j h1 _ => List.getElem?_set_ne (Ne.symm h1)) wh' (fun j h1 b => by rw [wf' j h1]) (fun j h1 c hc' => hblk c (hn'.sep.lt j c hc') fun e => h1 (hn'.sep.apart j i c hc' e))
        (fun q hq => by
          rw [List.getElem?_set_self hi] at hq
          obtain rfl := Option.some.inj hq
          rw [wh, wf]; exact hres)
        (fun b hb => by
          rw [wf] at hb
          rcases hb with hb | hb
          · exact hvlt b hb
          · exact .inl ((f6 b).2 (.inr hb)))
        (fun b hb => by
          rw [wf] at hb
          rcases hb with hb | hb
          · exact (r2.lt b hb).2
          · exact Nat.lt_of_lt_of_le (hGlt b hb) r3.size)
        (fun h' => absurd hi (by simp at h'; omega)) (fun h' => by rw [List.getElem?_set_self hi] at h'; cases h')
    exact ⟨_, _, W', h, (hn'.next tr sp).put hN (sl_whole (e := e) (k := k) (rows := rows ++ news) (List.getElem?_set_self hi) (by rw [List.length_append, hn]) wh (by
      rcases r2.2 with ⟨rfl, _⟩ | ⟨g, cap, cur, rfl, _⟩ <;> rfl) sp), tr⟩
end
end Go.Proofs.Ytkaikajjhhnifaa.E
