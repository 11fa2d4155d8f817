/- Words of the session's own, twenty-eighth part: the rule for calls that come one behind the other and things made beside them, and its words. -/
import Derived.Test.YtkaikajjhhnifaaE27
namespace Go.Proofs.Ytkaikajjhhnifaa.E
open Go Go.RowKit
set_option linter.unusedVariables false
set_option linter.unusedSimpArgs false

section
variable {P : Program} {N : Nat} {ops : Array Oper} {sB : Slots} {RB : List Res} {WB : Wit} {a0 : Act} {w0 : World} {L0 : Array Bool} {ed : List Nat}

theorem MInv.join {l : List It} {dn : List Nat} {D : Slots} {U : List Res} {W V : Wit} {S : List Res} {listed : Array Bool} {a : Act} {w : World} (h : MInv P N ops sB RB WB a0 w0 L0 ed l dn D U W listed a w) (hv : Sep w V S) (hS : S.all Res.own = true)
    (hf : ∀ i b, V.fs i b → w0.heap.size ≤ b ∧ ∃ x ∈ l, x.st.fp b) :
    Trans w0 WB RB w (Wit.join (RB ++ U).length W V) ((RB ++ U) ++ S.map (Res.sh (RB ++ U).length)) ∧ Sep w (Wit.join (RB ++ U).length W V) ((RB ++ U) ++ S.map (Res.sh (RB ++ U).length)) := by
  have hd : ∀ i j b, W.fs i b → ¬ V.fs j b := fun i j b hi hj => by
    obtain ⟨_, x, hx, hp⟩ := hf j b hj
    exact h.fpW x hx b hp i hi
  have hlen : RB.length ≤ (RB ++ U).length := by simp
  have tr : Trans w0 WB RB w (Wit.join (RB ++ U).length W V) ((RB ++ U) ++ S.map (Res.sh (RB ++ U).length)) := by
    refine ⟨h.below.os, h.below.tape, h.below.output, h.below.size, fun b hb => h.below.block b hb.1, fun i b hi => ?_, fun i => ?_⟩
    · simp only [Wit.join] at hi
      split at hi
      · rcases Nat.lt_or_ge i RB.length with h' | h'
        · exact .inl ⟨i, ((h.stab i h').2 b).1 hi⟩
        · exact .inr (h.fresh i b h' hi)
      · exact .inr (hf _ b hi).1
    · rcases Nat.lt_or_ge i RB.length with hi | hi
      · rw [List.append_assoc, List.getElem?_append_left hi]
        have hi2 : i < (RB ++ U).length := by omega
        have : (Wit.join (RB ++ U).length W V).hs i = WB.hs i := by simp only [Wit.join, hi2, if_true]; exact (h.stab i hi).1
        rw [this]; exact Goes.refl _ _
      · rw [List.getElem?_eq_none hi]; exact trivial
  refine ⟨tr, fun i r hr => ?_, fun i hi b hb' => ?_, fun i hi b hb' => ?_, fun i j b hi hj => ?_, fun i b hi => ?_⟩
  · rcases Nat.lt_or_ge i (RB ++ U).length with hi | hi
    · rw [List.getElem?_append_left hi] at hr
      have e1 : (Wit.join (RB ++ U).length W V).hs i = W.hs i := by simp only [Wit.join, hi, if_true]
      have e2 : (Wit.join (RB ++ U).length W V).fs i = W.fs i := by funext b; simp only [Wit.join, hi, if_true]
      rw [e1, e2]
      rcases Nat.lt_or_ge i RB.length with h' | h'
      · rw [List.getElem?_append_left h'] at hr
        obtain ⟨s1, s2⟩ := h.stab i h'
        have s3 : W.fs i = WB.fs i := funext fun b => propext (s2 b)
        rw [s1, s3]
        exact (h.base.sep.res i r hr).next tr fun b hb' => h.below.block b (h.base.sep.lt i b hb')
      · have hr0 := h.now.sep.res i r (by rw [List.getElem?_append_right h'] at hr ⊢; exact hr)
        rw [List.getElem?_append_right h'] at hr
        cases r with
        | box cs =>
          obtain ⟨b, arr, e, f1, f2, f3, f4⟩ := hr0
          have hown : Res.own (.box cs) = true := List.all_eq_true.1 h.ownU _ (List.mem_of_getElem? hr)
          exact ⟨b, arr, e, f1, f2, f3, f4.more hown⟩
        | row e k rows => exact hr0
        | gone => trivial
    · have hr' := hr
      rw [show i = (RB ++ U).length + (i - (RB ++ U).length) by omega] at hr'
      obtain ⟨r0, e1, rfl⟩ := join_back hr'
      have e2 : (Wit.join (RB ++ U).length W V).hs i = V.hs (i - (RB ++ U).length) := by simp only [Wit.join, show ¬ i < (RB ++ U).length by omega, if_false]
      have e3 : (Wit.join (RB ++ U).length W V).fs i = V.fs (i - (RB ++ U).length) := by funext b; simp only [Wit.join, show ¬ i < (RB ++ U).length by omega, if_false]
      rw [e2, e3]
      have hr0 := hv.res _ _ e1
      cases r0 with
      | box cs =>
        obtain ⟨b, arr, e, f1, f2, f3, f4⟩ := hr0
        have hown : Res.own (.box cs) = true := List.all_eq_true.1 hS _ (List.mem_of_getElem? e1)
        exact ⟨b, arr, e, f1, f2, f3, f4.sh hown⟩
      | row e k rows => exact hr0
      | gone => trivial
  · simp only [Wit.join] at hb'
    simp only [List.length_append, List.length_map] at hi
    rw [if_neg (by simp; omega)] at hb'
    exact hv.out _ (by simp; omega) b hb'
  · simp only [Wit.join] at hb'
    rcases Nat.lt_or_ge i (RB ++ U).length with h' | h'
    · rw [List.getElem?_append_left h'] at hi
      rw [if_pos h'] at hb'
      exact h.now.sep.gone i hi b hb'
    · rw [if_neg (by omega)] at hb'
      rw [show i = (RB ++ U).length + (i - (RB ++ U).length) by omega] at hi
      obtain ⟨r0, e1, e2⟩ := join_back hi
      have : r0 = .gone := by cases r0 <;> first | rfl | cases e2
      rw [this] at e1
      exact hv.gone _ e1 b hb'
  · simp only [Wit.join] at hi hj
    split at hi <;> split at hj
    · exact h.now.sep.apart i j b hi hj
    · exact absurd hj (hd _ _ b hi)
    · exact absurd hi (hd _ _ b hj)
    · have := hv.apart _ _ b hi hj; omega
  · simp only [Wit.join] at hi
    split at hi
    · exact h.now.sep.lt i b hi
    · exact hv.lt _ b hi
end

def mdOk (md : List Nat) (C : List (Chn × (AV → List Res → Prop))) : Bool := md.all fun d => C.all fun x => !x.1.dsts.contains d

/-- Calls one behind the other, and whatever is made beside them. -/
theorem T_main {P : Program} {N : Nat} {ops : Array Oper} {s s1 : Slots} {R R1 : List Res} {K : Slots → List Res → Prop} {listed : Array Bool} (f : Nat) (C : List (Chn × (AV → List Res → Prop))) (ms : List (Nat × Bool)) (md : List Nat) (er : Slots) (ks : List Nat)
    (her : ((C.flatMap fun x => x.1.dsts) ++ md).map (fun d => (d, AV.any)) = er) (hks : ms.map Prod.fst ++ (C.flatMap fun x => x.1.nums) = ks)
    (hC : AllOk P N ops (er ++ s) R C) (h : MRun P N ops md (FreshK (fun s' R' => EAnyT P N ops (er ++ s1) R1 f (markAll listed ks) s' R' K) (C.map fun x => (x.1.dst, x.2))) ms (er ++ s) R)
    (hchk : mChk ops listed ms (C.map Prod.fst) = true) (hap : apOk C = true) (hmd : mdOk md C = true) :
    EAnyT P N ops s1 R1 (f + (ms.length + cnt C)) listed s R K := by
  subst her hks
  intro G w1 W1 a0 w0 W hn1 ht hn hb hc hq
  have ge1 := fun (s : Slots) t => get_eras ((C.flatMap fun x => x.1.dsts) ++ md) s t
  have hds : ∀ x ∈ C, ∀ d ∈ x.1.dsts, d ∈ (C.flatMap fun x => x.1.dsts) ++ md := fun x hx d hd => List.mem_append_left _ (List.mem_flatMap.2 ⟨x, hx, hd⟩)
  have hn0 : Now N (((C.flatMap fun x => x.1.dsts) ++ md).map (fun d => (d, AV.any)) ++ s) R a0 w0 W := hn.sub fun t => by
    by_cases e : t ∈ (C.flatMap fun x => x.1.dsts) ++ md
    · exact .inl ((ge1 s t).1 e)
    · exact .inr ((ge1 s t).2 e).symm
  have hchk' := hchk
  simp only [mChk, Bool.and_eq_true, List.all_eq_true] at hchk'
  obtain ⟨⟨_, q1, _⟩, ⟨q3, _⟩, _⟩ := hchk'
  have hnum : ∀ x ∈ C, ∀ k ∈ x.1.nums, k < listed.size := fun x hx k hk => by
    have := q3 x.1 (List.mem_map_of_mem hx)
    simp only [chOk1, Bool.and_eq_true, List.all_eq_true, decide_eq_true_eq, Bool.not_eq_true'] at this
    exact (this.1 k hk).2.1
  have hnumM : ∀ m ∈ ms, m.1 < listed.size := fun m hm => by
    have := q1 m hm
    simp only [mOne, Bool.and_eq_true, decide_eq_true_eq] at this
    exact this.1.2.1
  have key := main_wp (P := P) (N := N) (ops := ops) (sB := ((C.flatMap fun x => x.1.dsts) ++ md).map (fun d => (d, AV.any)) ++ s) (RB := R) (WB := W) (a0 := a0) (w0 := w0) (L0 := listed) (ed := (C.flatMap fun x => x.1.dsts) ++ md) (CQ := C) (ms := ms) (md := md) (Sx := fun w' => Below w1.heap.size w1 w') (G := G) (f := f)
    (KF := FreshK (fun s' R' => EAnyT P N ops (((C.flatMap fun x => x.1.dsts) ++ md).map (fun d => (d, AV.any)) ++ s1) R1 f (markAll listed (ms.map Prod.fst ++ (C.flatMap fun x => x.1.nums))) s' R' K) (C.map fun x => (x.1.dst, x.2)))
    (fun w hw => hb.trans (hw.mono hb.size)) hchk (fun d hd => ⟨List.mem_append_right _ hd, fun x hx hx' => by
        simp only [mdOk, List.all_eq_true, Bool.not_eq_true'] at hmd
        have := hmd d hd x hx
        simp at this; exact this hx'⟩) (fun l D U W' lst a w hl hov hi hK => ?_) (ms.length + cnt C) [] ms (C.map fun x => ⟨x.1, x.2, .no⟩) [] [] W listed a0 w0 rfl (by simp [todo, cnt, St.left, Function.comp_def]) (by simp [Function.comp_def])
    ⟨hn0, by simpa using hn0, fun p hp => by simp at hp, rfl, fun i hi => ⟨rfl, fun _ => Iff.rfl⟩, fun i b hi hf => absurd hf (hn.sep.out i hi b), Below.refl _ _, fun x hx => by
        obtain ⟨y, hy, rfl⟩ := List.mem_map.1 hx
        exact hC.mem y hy, fun x hx => by
        obtain ⟨y, hy, rfl⟩ := List.mem_map.1 hx
        trivial, fun x hx b hb => by
        obtain ⟨y, hy, rfl⟩ := List.mem_map.1 hx
        exact hb.elim, fun x hx b hb => by
        obtain ⟨y, hy, rfl⟩ := List.mem_map.1 hx
        exact hb.elim, apOk_pair C hap, rfl, fun k => ⟨.inl, fun h => by
          rcases h with h | h | ⟨x, hx, h⟩
          · exact h
          · simp at h
          · obtain ⟨y, hy, rfl⟩ := List.mem_map.1 hx
            exact h.elim⟩, hc, fun t _ => rfl, fun x hx d hd => by
        obtain ⟨y, hy, rfl⟩ := List.mem_map.1 hx
        exact ⟨(ge1 s d).1 (hds y hy d hd), hds y hy d hd⟩, fun t ht => (ge1 s t).1 ht⟩ (by simpa using h)
  · exact key
  · have hmemC : ∀ x ∈ l, (x.c, x.Q) ∈ C := fun x hx => hl ▸ List.mem_map.2 ⟨x, hx, rfl⟩
    have hmeml : ∀ y ∈ C, ∃ x ∈ l, x.c = y.1 := fun y hy => by
      rw [← hl] at hy
      obtain ⟨x, hx, rfl⟩ := List.mem_map.1 hy
      exact ⟨x, hx, rfl⟩
    have hlst : markAll listed (ms.map Prod.fst ++ (C.flatMap fun x => x.1.nums)) = lst := by
      refine bools_ext (by rw [markAll_size, hi.size]) fun k => ?_
      rw [markAll_get _ _ (fun k hk => by
        rcases List.mem_append.1 hk with hk | hk
        · obtain ⟨m, hm, rfl⟩ := List.mem_map.1 hk
          exact hnumM m hm
        · obtain ⟨x, hx, hk⟩ := List.mem_flatMap.1 hk
          exact hnum x hx k hk), hi.list k]
      constructor
      · rintro (h1 | h1)
        · exact .inl h1
        · rcases List.mem_append.1 h1 with h1 | h1
          · exact .inr (.inl (by simpa using h1))
          · obtain ⟨y, hy, hk⟩ := List.mem_flatMap.1 h1
            obtain ⟨x, hx, e⟩ := hmeml y hy
            obtain ⟨r, S, V, v, e2⟩ := hov x hx
            exact .inr (.inr ⟨x, hx, by rw [e2]; show k ∈ x.c.nums; rw [e]; exact hk⟩)
      · rintro (h1 | h1 | ⟨x, hx, h1⟩)
        · exact .inl h1
        · exact .inr (List.mem_append_left _ (by simpa using h1))
        · obtain ⟨r, S, V, v, e2⟩ := hov x hx
          rw [e2] at h1
          exact .inr (List.mem_append_right _ (List.mem_flatMap.2 ⟨_, hmemC x hx, h1⟩))
    subst hlst
    have hmap : (l.map fun x => (x.c.dst, x.Q)) = C.map fun x => (x.1.dst, x.2) := by rw [← hl, List.map_map]; rfl
    rw [← hmap] at hK
    obtain ⟨D2, S2, V2, hK2, g1, g2, g3, g4⟩ := gather (a := a) (w := w) (Pb := fun b => w0.heap.size ≤ b ∧ ∃ x ∈ l, x.st.fp b) (s := D ++ (((C.flatMap fun x => x.1.dsts) ++ md).map (fun d => (d, AV.any)) ++ s)) (R := R ++ U) l [] [] W0 hov hi.ok hi.apart (Sep.none w) rfl (fun p hp => by simp at hp) (fun i b h => h.elim) (fun x hx b hb => ⟨(hi.fp x hx b hb).1, x, hx, hb⟩) (fun x hx i b h => h.elim) (by rw [show shS (R ++ U).length [] = [] from rfl, List.nil_append, List.map_nil, List.append_nil]; exact hK)
    obtain ⟨tr, sp⟩ := hi.join g1 g2 g4
    have hnow : Now N (shS (R ++ U).length D2 ++ (D ++ (((C.flatMap fun x => x.1.dsts) ++ md).map (fun d => (d, AV.any)) ++ s))) ((R ++ U) ++ S2.map (Res.sh (R ++ U).length)) a w (Wit.join (R ++ U).length W' V2) := by
      refine ⟨hi.now.size, hi.now.defers, fun t => ?_, sp⟩
      rcases get_shS (n := (R ++ U).length) (s := D ++ (((C.flatMap fun x => x.1.dsts) ++ md).map (fun d => (d, AV.any)) ++ s)) (t := t) D2 with ⟨p, h1, rfl, h3⟩ | h3
      · rw [h3]
        obtain ⟨r1, r2⟩ := g3 p h1
        exact r2.sh r1
      · rw [h3]
        rcases get_app D (((C.flatMap fun x => x.1.dsts) ++ md).map (fun d => (d, AV.any)) ++ s) t with ⟨p, h1, h2, h4⟩ | h4
        · have hv := hi.now.val t
          rw [h4] at hv ⊢
          exact hv.more (hi.ownD p h1)
        · rw [h4]
          by_cases e : t ∈ (C.flatMap fun x => x.1.dsts) ++ md
          · rw [(ge1 s t).1 e]; exact AVR.any ..
          · rw [hi.same t e]; exact (hn0.val t).next tr
    have hn1' : Now N (((C.flatMap fun x => x.1.dsts) ++ md).map (fun d => (d, AV.any)) ++ s1) R1 a w1 W1 := by
      refine ⟨hi.now.size, hi.now.defers, fun t => ?_, hn1.sep⟩
      by_cases e : t ∈ (C.flatMap fun x => x.1.dsts) ++ md
      · rw [(ge1 s1 t).1 e]; exact AVR.any ..
      · rw [(ge1 s1 t).2 e, hi.same t e]; exact hn1.val t
    exact hK2 G w1 W1 a w _ hn1' (ht.trans tr) hnow (hb.trans (hi.below.mono hb.size)) hi.closed fun a' w' hr => hq a' w' (hr.after tr)

section
variable {P : Program} {N : Nat} {s : Slots} {R : List Res} {ops : Array Oper}
theorem F_alloc {o : Oper} {t : Nat} {zs : List AC} (ho : o.op = .alloc t) (hz : zav P t = some zs) (hown : AC.own.owns zs = true := by rfl) : FOp P N o s R (fun r S => r = .c (.bp 0 0) ∧ S = [.box zs]) := by
  intro Q a w W hn
  obtain ⟨v, hr, har⟩ := zav_run hz w
  have hrun : (execOp a.eval o).run P w = .ok (.value (.pointer (some ⟨w.heap.size, 0, none⟩))) (w.alloc (.cells v.cells t)) := by
    simp only [execOp, ho, Instr.alloc, Sem.run_bind, hr, Result.andThen_ok]
    rfl
  unfold Oper.wp
  rw [hrun, Oper.upon_value]
  obtain ⟨V, k1, k2, k3⟩ := Sep.box (Sep.none w) (cs := zs) (arr := v.cells) (e := t) (har W0 [])
  have hb : Below w.heap.size w (w.alloc (.cells v.cells t)) := ⟨rfl, rfl, rfl, by simp, fun b hb' => heap_alloc_lt w _ b hb'⟩
  refine ⟨hb, _, _, V, _, ⟨rfl, rfl⟩, rfl, by simp [Res.own, hown], rfl, bp_new (R := []) k3, k2, fun i b hi => ?_⟩
  rcases k1.own i b hi with ⟨j, hj⟩ | hj
  · exact hj.elim
  · exact hj

variable {md : List Nat} {KF : Slots → List Res → Prop} {ms : List (Nat × Bool)} {i d : Nat} {o : Oper}
theorem m_pure {y : AV} (hi : ops[i]? = some o) (hw : want ops o s = some true) (hd : o.dst = some d) (hv : Pure P o s R y) (h : MRun P N ops md KF ms ((d, y) :: s) R) (hN : d < N := by decide) (hm : d ∈ md := by decide) (ho : y.own = true := by rfl) : MRun P N ops md KF ((i, true) :: ms) s R := .pure hi hw hd hN hm hv ho h
theorem m_call {x : Operand} {args : Array Operand} {ats : Array TypeId} {f : FuncId} {args' : List AV} {Q : AV → List Res → Prop} (hi : ops[i]? = some o) (hw : want ops o s = some true) (ho : o.op = .call { callee := .value x, args := args, argTypes := ats }) (hd : o.dst = some d) (hx : ev s x = .c (.fn f [])) (hf : callable P f = true)
    (h0 : EFn P f args' [] Q) (hk : ∀ r S, Q r S → MRun P N ops md KF ms ((d, r.sh R.length) :: s) (R ++ S.map (Res.sh R.length))) (ha : (args.toList.map (ev s)).map (E.lend R) = args' := by repeat' (first | (refine lend_whole rfl ?_; first | assumption | exact ints_len _ | exact pairs_len _ | exact quads_len _ | exact bools_len _ | (simp [ints_len, bools_len, pairs_len, quads_len, part_len, *]; done) | (simp [ints_len, bools_len, pairs_len, quads_len]; omega) | rfl) | refine agg_eq ?_ | (refine lendC_whole rfl ?_; first | assumption | exact ints_len _ | exact pairs_len _ | exact quads_len _ | exact bools_len _ | (simp [ints_len, bools_len, pairs_len, quads_len, part_len, *]; done) | (simp [ints_len, bools_len, pairs_len, quads_len]; omega) | rfl) | refine cons_eq ?_ ?_ | rfl | (simp [E.lend, E.lendC, E.ev, E.cv, E.get, E.fill', E.fill, AV.sh, AC.sh, Res.sh, ints_len, *]; done))) (hq : ∀ r S, Q r S → r.own = true ∧ S.all Res.own = true := by rintro r S ⟨rfl, rfl⟩; exact ⟨rfl, rfl⟩) (hN : d < N := by decide) (hm : d ∈ md := by decide) : MRun P N ops md KF ((i, false) :: ms) s R := .call hi hw hd hN hm (F_call ho hx hf h0 ha hq) hk
theorem m_done (h : KF s R) : MRun P N ops md KF [] s R := .done h
end

theorem t_main {P : Program} {N : Nat} {ops : Array Oper} {s s1 : Slots} {R R1 : List Res} {K : Slots → List Res → Prop} {listed : Array Bool} (f : Nat) (C : List (Chn × (AV → List Res → Prop))) (ms : List (Nat × Bool)) (md : List Nat) (er : Slots) (ks : List Nat) {CD : List (Nat × (AV → List Res → Prop))}
    (hC : AllOk P N ops (er ++ s) R C) (h : MRun P N ops md (FreshK (fun s' R' => EAnyT P N ops (er ++ s1) R1 f (markAll listed ks) s' R' K) CD) ms (er ++ s) R)
    (her : ((C.flatMap fun x => x.1.dsts) ++ md).map (fun d => (d, AV.any)) = er := by rfl) (hks : ms.map Prod.fst ++ (C.flatMap fun x => x.1.nums) = ks := by rfl) (hCD : C.map (fun x => (x.1.dst, x.2)) = CD := by rfl)
    (hchk : mChk ops listed ms (C.map Prod.fst) = true := by kernel_rfl) (hap : apOk C = true := by kernel_rfl) (hmd : mdOk md C = true := by kernel_rfl) : EAnyT P N ops s1 R1 (f + (ms.length + cnt C)) listed s R K := by
  subst hCD
  exact T_main f C ms md er ks her hks hC h hchk hap hmd
end Go.Proofs.Ytkaikajjhhnifaa.E
