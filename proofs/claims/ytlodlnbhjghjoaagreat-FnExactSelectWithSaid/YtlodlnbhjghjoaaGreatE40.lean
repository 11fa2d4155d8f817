/- Words of the session's own, fortieth part: a call of a function value with what it holds, over some of the resources; remainders. -/
import Derived.Test.YtlodlnbhjghjoaaGreatE36
import Derived.Test.YtlodlnbhjghjoaaGreatE37
namespace Go.Proofs.YtlodlnbhjghjoaaGreat.E
open Go Go.RowKit
set_option linter.unusedVariables false
set_option linter.unusedSimpArgs false

theorem x_frameC {P : Program} {N i : Nat} {s : Slots} {R : List Res} {ops : Array Oper} {rest : List Nat} {K : Slots → List Res → Prop} {o : Oper} {caps : List AC} {d : Nat} {x : Operand} {args : Array Operand} {ats : Array TypeId} {f : FuncId} {args' : List AV} {Rs : List Res} {Q : AV → List Res → Prop} (σ : List Nat) (ho' : ops[i]? = some o) (hw : want ops o s = some true) (ho : o.op = .call { callee := .value x, args := args, argTypes := ats }) (hd : o.dst = some d) (hx : ev s x = .c (.fn f caps)) (hf : callable P f = true)
    (hR : reR 0 σ R = Rs) (h : EFn P f args' Rs Q) (hk : ∀ r R', (∃ r0 S, Q r0 S ∧ r = r0.un R.length σ ∧ R' = back σ R S) → EOps P N ops rest ((d, r) :: s) R' K) (hσ : okσ 0 R σ = true := by rfl) (ha : (args.toList.map (E.ev s) ++ caps.map AV.c).map (AV.sub R σ) = args' := by repeat' (first | (refine sub_whole rfl ?_; first | assumption | exact ints_len _ | exact pairs_len _ | exact quads_len _ | exact quints_len _ | exact bools_len _ | (simp [ints_len, bools_len, pairs_len, quads_len, quints_len, part_len, *]; done) | (simp [ints_len, bools_len, pairs_len, quads_len, quints_len]; omega) | rfl) | refine agg_eq ?_ | (refine subC_whole rfl ?_; first | assumption | exact ints_len _ | exact pairs_len _ | exact quads_len _ | exact quints_len _ | exact bools_len _ | (simp [ints_len, bools_len, pairs_len, quads_len, quints_len, part_len, *]; done) | (simp [ints_len, bools_len, pairs_len, quads_len, quints_len]; omega) | rfl) | refine cons_eq ?_ ?_ | rfl | (simp [E.lend, E.lendC, E.ev, E.cv, E.get, E.fill', E.fill, AV.sh, AC.sh, Res.sh, ints_len, *]; done))) (hq : ∀ r S, Q r S → r.own = true ∧ S.all Res.own = true := by rintro r S ⟨rfl, rfl⟩; exact ⟨rfl, rfl⟩) (hN : d < N := by decide) : EOps P N ops (i :: rest) s R K := EOps_go ho' hw (EOp_call1 ho hd hN hx hf (EFn.frame' σ hσ hR ha h hq) rfl hk)

theorem L_rem {P : Program} {s : Slots} {R : List Res} {o : Oper} {t t' : Nat} {x y : Operand} {u v : Int} (ho : o.op = .binOp .rem t x y t') (hx : E.ev s x = .c (.sc (.int .i64 u))) (hy : E.ev s y = .c (.sc (.int .i64 v))) (hu : 0 ≤ u) (hv : 0 < v) : Pure P o s R (.c (.sc (.int .i64 (u % v)))) := fun N a w W hn =>
  ⟨.int .i64 (u % v), AR.sc1 (v := .int .i64 (u % v)) rfl, fun w' => by
    have hv0 : v ≠ 0 := by omega
    have hm : Int.tmod u v = u % v := Int.tmod_eq_emod_of_nonneg hu
    have hr : (do eqGuard .rem t x y (.int .i64 u) (.int .i64 v); binOp .rem t (.int .i64 u) (.int .i64 v)).run P w' = .ok (.int .i64 (u % v)) w' := by
      simp [eqGuard, binOp, Op.intDiv, hv0, hm]
    simp only [execOp, ho, hn.sc hx, hn.sc hy]
    simp only [Sem.run_bind] at hr ⊢
    rw [hr]; rfl⟩

/-- A variable is made. -/
theorem V_alloc {P : Program} {s : Slots} {R : List Res} {o : Oper} {t : Nat} {zs : List AC} {KV : AV → List Res → Prop} (ho : o.op = .alloc t) (hz : zav P t = some zs) (h : KV (.c (.bp R.length 0)) (R ++ [.box zs])) : HeavyV P o s R KV := by
  intro N Q a w W hn
  obtain ⟨v, hr, har⟩ := zav_run hz w
  have hrun : (execOp a.eval o).run P w = .ok (.value (.pointer (some ⟨w.heap.size, 0, none⟩))) (w.alloc (.cells v.cells t)) := by
    simp only [execOp, ho, Instr.alloc, Sem.run_bind, hr, Result.andThen_ok]
    rfl
  unfold Oper.wp
  rw [hrun, Oper.upon_value]
  obtain ⟨V, k1, k2, k3⟩ := Sep.box hn.sep (cs := zs) (arr := v.cells) (e := t) (har W R)
  have hb : Below w.heap.size w (w.alloc (.cells v.cells t)) := ⟨rfl, rfl, rfl, by simp, fun b hb' => heap_alloc_lt w _ b hb'⟩
  exact ⟨hb, _, _, V, _, h, rfl, bp_new k3, k1, k2⟩

/-- An operation before or behind which all others have to come that turn or look at memory, where others may come up too. -/
theorem s_turn {P : Program} {N : Nat} {ops : Array Oper} {s s1 : Slots} {R R1 : List Res} {K : Slots → List Res → Prop} {fuel : Nat} {listed listed' : Array Bool} {o : Oper} (i : Nat) (hi : ops[i]? = some o) (hw : want ops o s = some true) (h : EOp P N o s R fun s' R' => EAnyT P N ops s' R' fuel listed' s' R' K) (hd : domB .any ops i = true := by kernel_rfl) (hl : listed.setIfInBounds i true = listed' := by rfl) : TStep P N ops i s1 R1 fuel listed s R K := by
  subst hl
  intro G w1 W1 a w W hn1 ht hn hb hc hj hq
  have hc' := hc.step hj
  unfold wpOp
  simp only [hi, want_real hn hw, if_true]
  refine .inl (Oper.wp_mono (fun a' w' hh => ?_) (h _ a w W hn))
  obtain ⟨s', R', W', h2, h3, h4⟩ := hh
  exact .inr ⟨dom_of hd, fun w'' => Below w'.heap.size w' w'', Below.refl _ _, h2 G w' W' a' w' W' h3 (.refl ..) h3 (Below.refl _ _) hc' fun a'' w'' hr' => hq a'' w'' (hr'.after h4)⟩
theorem s_frame {P : Program} {N : Nat} {s s1 : Slots} {R R1 : List Res} {ops : Array Oper} {K : Slots → List Res → Prop} {fuel : Nat} {listed listed' : Array Bool} {o : Oper} (i : Nat) {d : Nat} {x : Operand} {args : Array Operand} {ats : Array TypeId} {f : FuncId} {args' : List AV} {Rs : List Res} {Q : AV → List Res → Prop} (σ : List Nat) (hi : ops[i]? = some o) (hw : want ops o s = some true) (ho : o.op = .call { callee := .value x, args := args, argTypes := ats }) (hd : o.dst = some d) (hx : ev s x = .c (.fn f [])) (hf : callable P f = true)
    (hR : reR 0 σ R = Rs) (h : EFn P f args' Rs Q) (hk : ∀ r R', (∃ r0 S, Q r0 S ∧ r = r0.un R.length σ ∧ R' = back σ R S) → EAnyT P N ops ((d, r) :: s) R' fuel listed' ((d, r) :: s) R' K) (hσ : okσ 0 R σ = true := by rfl) (ha : (args.toList.map (E.ev s)).map (AV.sub R σ) = args' := by repeat' (first | (refine sub_whole rfl ?_; first | assumption | exact ints_len _ | exact pairs_len _ | exact quads_len _ | exact quints_len _ | exact bools_len _ | (simp [ints_len, bools_len, pairs_len, quads_len, quints_len, part_len, *]; done) | (simp [ints_len, bools_len, pairs_len, quads_len, quints_len]; omega) | rfl) | refine agg_eq ?_ | (refine subC_whole rfl ?_; first | assumption | exact ints_len _ | exact pairs_len _ | exact quads_len _ | exact quints_len _ | exact bools_len _ | (simp [ints_len, bools_len, pairs_len, quads_len, quints_len, part_len, *]; done) | (simp [ints_len, bools_len, pairs_len, quads_len, quints_len]; omega) | rfl) | refine cons_eq ?_ ?_ | rfl | (simp [E.lend, E.lendC, E.ev, E.cv, E.get, E.fill', E.fill, AV.sh, AC.sh, Res.sh, ints_len, *]; done))) (hq : ∀ r S, Q r S → r.own = true ∧ S.all Res.own = true := by rintro r S ⟨rfl, rfl⟩; exact ⟨rfl, rfl⟩) (hN : d < N := by decide) (hdm : domB .any ops i = true := by kernel_rfl) (hl : listed.setIfInBounds i true = listed' := by rfl) : TStep P N ops i s1 R1 fuel listed s R K :=
  s_turn i hi hw (EOp_call1 ho hd hN hx hf (EFn.frame' σ hσ hR ha h hq) (by simp) hk) hdm hl

/-- What a variable's field holds, told as a row of its own, under a number that is told. -/
theorem E_moveN' {P : Program} {N : Nat} {s : Slots} {R : List Res} {Q : Exit → Slots → List Res → Prop} {c : Code} (n i j : Nat) (hn : R.length = n) {q e k m tot : Nat} {cs : List AC} {rows rows' : List (List T)} (hR : R[i]? = some (.box cs)) (hc : cs[j]? = some (.sl q 0 m tot)) (hq : R[q]? = some (.row e k rows)) (hl : rows.length = tot) (hm : m ≤ tot) (hr : rows.take m = rows') (ha : rows.flatten.all isSc = true)
    (h : ECode P N c s ((R.set q .gone ++ [Res.row e k rows']).set i (.box (cs.set j (.sl n 0 m m)))) Q) : ECode P N c s R Q := by
  subst hn
  exact E_move i j hR hc hq hl hm hr ha h

theorem G_moveN' {P : Program} {N b : Nat} {s : Slots} {R : List Res} {Q : Exit → Slots → List Res → Prop} {c : Code} (n i j : Nat) (hn : R.length = n) {q e k m tot : Nat} {cs : List AC} {rows rows' : List (List T)} (hR : R[i]? = some (.box cs)) (hc : cs[j]? = some (.sl q 0 m tot)) (hq : R[q]? = some (.row e k rows)) (hl : rows.length = tot) (hm : m ≤ tot) (hr : rows.take m = rows') (ha : rows.flatten.all isSc = true)
    (h : GCode P N b c s ((R.set q .gone ++ [Res.row e k rows']).set i (.box (cs.set j (.sl n 0 m m)))) Q) : GCode P N b c s R Q := by
  subst hn
  exact G_move i j hR hc hq hl hm hr ha h
end Go.Proofs.YtlodlnbhjghjoaaGreat.E
