/- Words of the session's own, twenty-fifth part: what a chain may be made of. -/
import Derived.Test.YtkaikajjhhnifaaE24
import Derived.Deep.AppendSrc
namespace Go.Proofs.Ytkaikajjhhnifaa.E
open Go Go.RowKit
set_option linter.unusedVariables false
set_option linter.unusedSimpArgs false

section
variable {P : Program} {N : Nat} {s : Slots} {R : List Res}

theorem F_call {o : Oper} {x : Operand} {args : Array Operand} {ats : Array TypeId} {f : FuncId} {args' : List AV} {Q : AV → List Res → Prop} (ho : o.op = .call { callee := .value x, args := args, argTypes := ats }) (hx : ev s x = .c (.fn f [])) (hf : callable P f = true)
    (h0 : EFn P f args' [] Q) (ha : (args.toList.map (ev s)).map (E.lend R) = args') (hq : ∀ r S, Q r S → r.own = true ∧ S.all Res.own = true) : FOp P N o s R Q := by
  intro Q' a w W hn
  have hv := hn.ev x
  rw [hx] at hv
  obtain ⟨xs, e, h1⟩ := AR.fn_inv hv
  obtain rfl : xs = [] := by cases h1; rfl
  unfold Oper.wp
  have hr : (execOp a.eval o).run P w = .ok (.enter f (args.map a.eval)) w := by
    simp only [execOp, ho, resolve, e, Deferred.ofValue, Sem.run_bind, Sem.run_pure, Result.andThen_ok, invoke]
    simpa using run_callFunc hf _ w
  rw [hr, Oper.upon_enter]
  have hav : AVs W R w (args.toList.map (ev s)) (args.toList.map a.eval) := by
    refine ⟨by simp, fun i y v hy hu => ?_⟩
    rw [List.getElem?_map] at hy hu
    cases hi : args.toList[i]? with
    | none => rw [hi] at hy; cases hy
    | some z =>
      rw [hi] at hy hu
      obtain rfl : ev s z = y := by simpa using hy
      obtain rfl : a.eval z = v := by simpa using hu
      exact hn.ev z
  have hv0 : AVs W0 [] w ((args.toList.map (ev s)).map (E.lend R)) (args.toList.map a.eval) := by
    refine ⟨by simp, fun i x v hx hu => ?_⟩
    rw [List.getElem?_map] at hx
    cases hy : (args.toList.map (ev s))[i]? with
    | none => rw [hy] at hx; cases hx
    | some y =>
      rw [hy] at hx
      obtain rfl := Option.some.inj hx
      exact (hav.2 i y v hy hu).lend hn.sep
  rw [ha] at hv0
  have hh : (args.toList.map a.eval).toArray = args.map a.eval := by
    apply Array.ext'; simp
  have hc := h0 w W0 _ hv0 (Sep.none w)
  rw [hh] at hc
  refine hc.mono ?_
  rintro e' w' ⟨r, S, V, k1, ⟨v, rfl, k2⟩, k3, k4⟩
  obtain ⟨q1, q2⟩ := hq r S k1
  refine ⟨⟨k4.os, k4.tape, k4.output, k4.size, fun b hb => k4.frame b ⟨hb, fun _ h => h⟩⟩, r, S, V, v, k1, q1, q2, rfl, k2, k3, fun i b hi => ?_⟩
  rcases k4.own i b hi with ⟨j, hj⟩ | hj
  · exact hj.elim
  · exact hj

theorem F_bslice {o : Oper} {t e k : Nat} {bb : Bool} (ho : o.op = .buildSlice t 0 #[]) (ht : isSlice P t = some e) (hty : tyIs P e = some (bb, k)) : FOp0 P o e := by
  intro Q a w
  unfold Oper.wp
  have hr : (execOp a.eval o).run P w = .ok (.value (.slice (some ⟨w.heap.size, 0, none⟩) 0 0)) (w.alloc (.cells #[] e)) := by
    have e0 : (Array.range (0 * k)).map (fun i => (#[] : Array Value)[i % (#[] : Array Value).size]!) = #[] := by apply Array.ext'; simp
    simp only [execOp, ho, Instr.buildSlice, Sem.run_bind, run_underlying_ (isSlice_of ht), Result.andThen_ok, run_sizeOf_ hty, Sem.run_pure, Nat.zero_mul]
    simp only [show (Array.range 0) = #[] from by apply Array.ext'; simp]
    simp [Instr.fill]
    rfl
  rw [hr, Oper.upon_value]
  exact ⟨rfl, rfl⟩

theorem F_append {o : Oper} {t e k bytes dm : Nat} {y : Operand} {bb : Bool} {zs : List AC} {news : List (List T)} (ho : o.op = .call { callee := .builtin .append, args := #[.tmp dm, y], argTypes := #[t, t] })
    (ht : isSlice P t = some e) (hty : tyIs P e = some (bb, k)) (hby : (P.info? e).map (·.bytes) = some bytes) (hz : zav P e = some zs) (hzl : zs.length = k ∧ 0 < k)
    (hy : E.lend R (ev s y) = .c (.ro news)) (hnews : ∀ r ∈ news, r.length = k ∧ r.all isSc = true) (hsz : news.length ≤ 9223372036854775807 ∧ news.length * bytes ≤ 140737488355328) :
    FOp1 P N o dm e s R (fun r S => r = .c (.sl 0 0 news.length news.length) ∧ S = [.row e k news]) := by
  intro Q a w W g hn hm hg
  obtain ⟨ad, c, inner, e1, e2, e3, e4, e5⟩ := src_of hn hy hnews
  obtain ⟨inf, z, z1, z2, z3, z4, rfl, z6⟩ := by_parts hty hby hz
  have hzk : z.cells.size = k := by have := hzl.1; simpa using this
  have hv : a.eval (.tmp dm) = .slice (some ⟨g, 0, none⟩) 0 0 := hm
  have f3 : w.ownsRow 0 e k (.slice (some ⟨g, 0, none⟩) 0 0) 0 [] := ⟨by simp, .inr ⟨g, 0, #[], rfl, Nat.zero_le _, hg, Nat.le_refl _, Nat.zero_le _, by simp, by simp⟩⟩
  have f0 : w.ownsRow 0 e k (.slice none 0 0) 0 [] := World.ownsRow_nil w 0 e k
  have hrun : ∀ v' w', (Builtin.append_ #[t, t] o.type #[.slice (some ⟨g, 0, none⟩) 0 0, .slice ad news.length c]).run P w = .ok v' w' → (execOp a.eval o).run P w = .ok (.value v') w' := fun v' w' hr => by
    simp only [execOp, ho, resolve, Sem.run_bind, Sem.run_pure, Result.andThen_ok, invoke, builtin]
    simp only [List.map_toArray, List.map_cons, List.map_nil, hv, e1, hr, Result.andThen_ok]
  have key : ∃ v' w', (Builtin.append_ #[t, t] o.type #[.slice (some ⟨g, 0, none⟩) 0 0, .slice ad news.length c]).run P w = .ok v' w' ∧ w'.ownsRow 0 e k v' news.length inner ∧ w.grownBy w' none ∧ (∀ b, v'.ownBlock = some b → b = g ∨ w.heap.size ≤ b) := by
    by_cases h0 : news = []
    · subst h0
      obtain rfl : inner = [] := List.eq_nil_of_length_eq_zero (by simpa using e2)
      exact ⟨_, w, run_append_zero (isSlice_of ht) hty f3 ad c, f3, ⟨rfl, rfl, rfl, Nat.le_refl _, fun _ _ _ => rfl⟩, fun b hb => by cases hb; exact .inl rfl⟩
    · have hpos := List.length_pos_iff.2 h0
      obtain ⟨b, oo, rfl, hc⟩ := e3 hpos
      have hcell : ∀ j u, inner[j]? = some u → w.cell? ((⟨b, oo, none⟩ : Addr).add j) = some u := fun j u hj => by rw [add_plain]; exact hc j u hj
      have hsrc : Src P inf.size t (.slice (some ⟨b, oo, none⟩) news.length c) news.length inner w := Src.ofSlice w (isSlice_of ht) ⟨b, oo, none⟩ news.length c inner (by rw [z3]; exact e2) hcell e4
      have hfit : Builtin.nextslicecap (0 + news.length) 0 * inf.bytes ≤ 281474976710656 := growslice_fits (by omega) (by rw [z4, Nat.zero_add]; exact hsz.2)
      have g1 := run_append_grow_src w t t o.type e inf z (isSlice_of ht) z1 z2 (some ⟨g, 0, none⟩) 0 0 [] (run_firstCells_some w.drew inf.size 0 ⟨g, 0, none⟩ 0 0 [] (by simp) (by simp)) _ news.length inner hsrc (by omega) (by omega) hfit
      have g2 := run_append_grow_src w t t o.type e inf z (isSlice_of ht) z1 z2 none 0 0 [] (run_firstCells_none w.drew inf.size 0 0 0) _ news.length inner hsrc (by omega) (by omega) hfit
      obtain ⟨v', w', r1, r2, r3, r4, r5⟩ := run_append_own_at (P := P) w 0 t o.type e inf z k bytes (isSlice_of ht) z1 z2 z3 z4 hzk hzl.2 (.slice none 0 0) 0 [] f0 ⟨b, oo, none⟩ news.length c inner e2 hcell e4 (by unfold maxLen; omega) (by rw [Nat.zero_add]; exact hsz.2) (Nat.zero_le _)
      refine ⟨v', w', by rw [g1, ← g2]; exact r1, by simpa using r2, r3, fun b hb => ?_⟩
      rcases r5 with r5 | r5
      · rw [r5] at hb; cases hb
      · rw [r5] at hb; cases hb; exact .inr (Nat.le_refl _)
  obtain ⟨v', w', r1, r2, r3, r4⟩ := key
  unfold Oper.wp
  rw [hrun _ _ r1, Oper.upon_value]
  have hS : Sep w' ⟨fun _ => v', fun i b => i = 0 ∧ v'.ownBlock = some b⟩ [.row e k news] := by
    refine ⟨fun i r hr => ?_, fun i hi b hb => ?_, fun i hi b hb => ?_, fun i j b hi hj => by rw [hi.1, hj.1], fun i b hb => (r2.lt b hb.2).2⟩
    · cases i with
      | zero =>
        obtain rfl : Res.row e k news = r := by simpa using hr
        exact ⟨hzl.2, fun r hr => (hnews r hr).1, inner, fun _ => False, r2, e5 w', fun b _ h => h, fun b => by simp⟩
      | succ i => simp at hr
    · rw [hb.1] at hi; simp at hi
    · rw [hb.1] at hi; simp at hi
  exact ⟨⟨r3.os, r3.tape, r3.output, r3.size, fun b hb => r3.block b hb (by simp)⟩, _, _, _, v', ⟨rfl, rfl⟩, rfl, rfl, rfl, sl_whole (e := e) (k := k) (rows := news) (by simp) rfl rfl (by rcases r2.2 with ⟨rfl, _⟩ | ⟨g, cap, cur, rfl, _⟩ <;> rfl) hS, hS, fun i b hb => r4 b hb.2⟩

theorem f_call {o : Oper} {x : Operand} {args : Array Operand} {ats : Array TypeId} {f : FuncId} {args' : List AV} {Q : AV → List Res → Prop} (ho : o.op = .call { callee := .value x, args := args, argTypes := ats }) (hx : ev s x = .c (.fn f [])) (hf : callable P f = true)
    (h0 : EFn P f args' [] Q) (ha : (args.toList.map (ev s)).map (E.lend R) = args' := by repeat' (first | (refine lend_whole rfl ?_; first | assumption | exact ints_len _ | exact pairs_len _ | exact quads_len _ | exact bools_len _ | (simp [ints_len, bools_len, pairs_len, quads_len, part_len, *]; done) | (simp [ints_len, bools_len, pairs_len, quads_len]; omega) | rfl) | refine agg_eq ?_ | (refine lendC_whole rfl ?_; first | assumption | exact ints_len _ | exact pairs_len _ | exact quads_len _ | exact bools_len _ | (simp [ints_len, bools_len, pairs_len, quads_len, part_len, *]; done) | (simp [ints_len, bools_len, pairs_len, quads_len]; omega) | rfl) | refine cons_eq ?_ ?_ | rfl | (simp [E.lend, E.lendC, E.ev, E.cv, E.get, E.fill', E.fill, AV.sh, AC.sh, Res.sh, ints_len, *]; done))) (hq : ∀ r S, Q r S → r.own = true ∧ S.all Res.own = true := by rintro r S ⟨rfl, rfl⟩; exact ⟨rfl, rfl⟩) : FOp P N o s R Q := F_call ho hx hf h0 ha hq
theorem f_append {o : Oper} {t e k bytes dm : Nat} {y : Operand} {bb : Bool} {zs : List AC} {news : List (List T)} {m : Nat} (ho : o.op = .call { callee := .builtin .append, args := #[.tmp dm, y], argTypes := #[t, t] })
    (ht : isSlice P t = some e) (hty : tyIs P e = some (bb, k)) (hby : (P.info? e).map (·.bytes) = some bytes) (hz : zav P e = some zs) (hm : news.length = m) (hzl : zs.length = k ∧ 0 < k := by exact ⟨rfl, by decide⟩)
    (hy : E.lend R (ev s y) = .c (.ro news) := by first | (refine lend_whole rfl ?_; first | assumption | exact ints_len _ | exact pairs_len _ | exact quads_len _ | exact bools_len _ | (simp [ints_len, bools_len, pairs_len, quads_len, part_len, *]; done) | (simp [ints_len, bools_len, pairs_len, quads_len]; omega) | rfl) | rfl | simp [E.lend, lendC]) (hnews : ∀ r ∈ news, r.length = k ∧ r.all isSc = true := by first | exact ints_row _ | exact pairs_row _ | exact quads_row _ | exact bools_row _ | (intro r hr; simp [chunk] at hr; subst hr; exact ⟨rfl, rfl⟩)) (hsz : news.length ≤ 9223372036854775807 ∧ news.length * bytes ≤ 140737488355328 := by (constructor <;> first | omega | (simp [ints_len, bools_len, pairs_len, quads_len, chunk]; omega))) :
    FOp1 P N o dm e s R (fun r S => r = .c (.sl 0 0 m m) ∧ S = [.row e k news]) := by subst hm; exact F_append ho ht hty hby hz hzl hy hnews hsz
end

theorem fk_cons {K : Slots → List Res → Prop} {d : Nat} {Q : AV → List Res → Prop} {l : List (Nat × (AV → List Res → Prop))} {s : Slots} {R : List Res} (h : ∀ r S, Q r S → FreshK K l ((d, r.sh R.length) :: s) (R ++ S.map (Res.sh R.length))) : FreshK K ((d, Q) :: l) s R := h
theorem fk_nil {K : Slots → List Res → Prop} {s : Slots} {R : List Res} (h : K s R) : FreshK K [] s R := h

theorem t_fresh {P : Program} {N : Nat} {ops : Array Oper} {s s1 : Slots} {R R1 : List Res} {K : Slots → List Res → Prop} {listed : Array Bool} (f : Nat) (C : List (Chn × (AV → List Res → Prop))) (er : Slots) (ks : List Nat) {CD : List (Nat × (AV → List Res → Prop))}
    (hC : AllOk P N ops (er ++ s) R C) (h : FreshK (fun s' R' => EAnyT P N ops (er ++ s1) R1 f (markAll listed ks) s' R' K) CD (er ++ s) R)
    (her : eras C = er := by rfl) (hks : (C.flatMap fun x => x.1.nums) = ks := by rfl) (hCD : C.map (fun x => (x.1.dst, x.2)) = CD := by rfl) (hchk : chOk ops listed (C.map Prod.fst) = true := by kernel_rfl) (hap : apOk C = true := by kernel_rfl) : EAnyT P N ops s1 R1 (f + cnt C) listed s R K := by
  subst her hks hCD
  exact T_fresh f C hC h hchk hap rfl
end Go.Proofs.Ytkaikajjhhnifaa.E
