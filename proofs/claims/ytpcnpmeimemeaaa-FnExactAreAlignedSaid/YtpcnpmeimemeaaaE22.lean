/- Words of the session's own, twenty-second part: a region that draws its order, told against the world in which it began: what only reads what stood there may come up at any time. -/
import Derived.Test.YtpcnpmeimemeaaaE21
namespace Go.Proofs.Ytpcnpmeimemeaaa.E
open Go Go.RowKit
set_option linter.unusedVariables false
set_option linter.unusedSimpArgs false

/-- What of a value can be told of the world before. -/
def back1 : AV → AV
  | .c (.sc v) => .c (.sc v)
  | .tup [] => .tup []
  | _ => .any

theorem back1_rel {W W1 : Wit} {R R1 : List Res} {w w1 : World} {y : AV} {v : Value} (h : AVR W R w y v) : AVR W1 R1 w1 (back1 y) v := by
  unfold back1
  split
  · have h' : AR W R w [.sc _] [v] := h
    obtain rfl := AR.sc_inv h'
    cases h' with
    | sc h1 _ => exact AR.sc1 h1
  · obtain ⟨us, e, hl, _⟩ := h
    obtain rfl : us = [] := List.length_eq_zero_iff.1 hl
    exact ⟨[], e, rfl, fun i x u h => by simp at h⟩
  · exact AVR.any ..

/-- s1, R1: what is known of the region's beginning; s, R: of now. -/
def EAnyT (P : Program) (N : Nat) (ops : Array Oper) (s1 : Slots) (R1 : List Res) (fuel : Nat) (listed : Array Bool) (s : Slots) (R : List Res) (K : Slots → List Res → Prop) : Prop :=
  ∀ (G : Act → World → Prop) (w1 : World) (W1 : Wit) a w W, Now N s1 R1 a w1 W1 → Trans w1 W1 R1 w W R → Now N s R a w W → Below w1.heap.size w1 w → (∀ a' w', Reach N w W R K a' w' → G a' w') →
    wpAnyH P .any ops (fun ex a' w' => ex = .normal ∧ G a' w') (fun w' => Below w1.heap.size w1 w') fuel listed a w

section
variable {P : Program} {N n : Nat} {ops : Array Oper} {s s1 : Slots} {R R1 : List Res} {K : Slots → List Res → Prop} {fuel : Nat} {listed listed' : Array Bool}

theorem E_drawT {id : Nat} {Q : Exit → Slots → List Res → Prop} (hm : P.follows .mixedOrders = true) (h : EAnyT P N ops s R ops.size (Array.replicate ops.size false) s R (Q .normal)) : ECode P N (.region id ops true) s R Q := by
  intro a w W hn
  obtain ⟨h1, h2⟩ := hn.draw
  have := h (fun a' w' => Reach N w W R (Q .normal) a' w') { w with drawn := w.drawn + 1 } W a _ W h1 (.refl ..) h1 (Below.refl _ _) fun a' w' hr => hr.after h2
  refine wp_mono (wp_region_held (S := fun w' => Below w.heap.size { w with drawn := w.drawn + 1 } w') hm this) ?_
  rintro e a' w' ⟨rfl, hr⟩
  exact hr

theorem G_drawT {id : Nat} {Q : Exit → Slots → List Res → Prop} (hm : P.follows .mixedOrders = true) (h : EAnyT P N ops s R ops.size (Array.replicate ops.size false) s R (Q .normal)) : GCode P N n (.region id ops true) s R Q := G_E (E_drawT hm h)

theorem T_done (hr : Region.ready .any ops listed = []) (h : K s R) : EAnyT P N ops s1 R1 fuel listed s R K :=
  fun G w1 W1 a w W _ _ hn hb hq => wpAnyH_done hr ⟨rfl, hq a w ⟨s, R, W, h, hn, .refl ..⟩⟩ fuel

theorem T_light {i d : Nat} {o : Oper} {y : AV} (hi : ops[i]? = some o) (hw : want ops o s = some true) (hs : Region.noSelect ops = true) (hf : Region.free .any ops listed i = true) (hr : (Region.ready .any ops listed).contains i = true)
    (hd : o.dst = some d) (hN : d < N) (hv : Light P o s1 R1 y) (hl : listed.setIfInBounds i true = listed') (h : EAnyT P N ops ((d, y) :: s1) R1 fuel listed' ((d, y) :: s) R K) : EAnyT P N ops s1 R1 (fuel + 1) listed s R K := by
  subst hl
  intro G w1 W1 a w W hn1 ht hn hb hq
  obtain ⟨v, hy, hrun⟩ := hv N a w1 W1 hn1
  refine wpAnyH_take hi hs hf hr (fun c a' w' hp => by cases hp.1) (v := v) (.inl ⟨want_real hn hw, fun w' hb' => hrun w' hb'⟩) hb ?_
  rw [hd]
  exact h G w1 W1 _ w W (hn1.put hN hy) ht (hn.put hN (hy.next ht)) hb hq

theorem T_pure {i d : Nat} {o : Oper} {y : AV} (hi : ops[i]? = some o) (hw : want ops o s = some true) (hs : Region.noSelect ops = true) (hf : Region.free .any ops listed i = true) (hr : (Region.ready .any ops listed).contains i = true)
    (hd : o.dst = some d) (hN : d < N) (hv : Pure P o s R y) (hl : listed.setIfInBounds i true = listed') (h : EAnyT P N ops ((d, back1 y) :: s1) R1 fuel listed' ((d, y) :: s) R K) : EAnyT P N ops s1 R1 (fuel + 1) listed s R K := by
  subst hl
  intro G w1 W1 a w W hn1 ht hn hb hq
  obtain ⟨v, hy, hrun⟩ := hv N a w W hn
  refine wpAnyH_take hi hs hf hr (fun c a' w' hp => by cases hp.1) (v := v) (.inl ⟨want_real hn hw, fun w' _ => hrun w'⟩) hb ?_
  rw [hd]
  exact h G w1 W1 _ w W (hn1.put hN (back1_rel hy)) ht (hn.put hN hy) hb hq

theorem T_skip {i : Nat} {o : Oper} (hi : ops[i]? = some o) (hw : want ops o s = some false) (hs : Region.noSelect ops = true) (hf : Region.free .any ops listed i = true) (hr : (Region.ready .any ops listed).contains i = true)
    (hd : ∀ d, o.dst = some d → d < N) (hl : listed.setIfInBounds i true = listed') (h : EAnyT P N ops (fill s1 o.dst) R1 fuel listed' (fill s o.dst) R K) : EAnyT P N ops s1 R1 (fuel + 1) listed s R K := by
  subst hl
  intro G w1 W1 a w W hn1 ht hn hb hq
  refine wpAnyH_take hi hs hf hr (fun c a' w' hp => by cases hp.1) (v := undef) (.inr ⟨want_real hn hw, rfl⟩) hb ?_
  refine h G w1 W1 _ w W ?_ ht ?_ hb hq
  · cases hdd : o.dst with
    | none => exact hn1
    | some d => exact hn1.put (hd d hdd) (AVR.undef ..)
  · cases hdd : o.dst with
    | none => exact hn
    | some d => exact hn.put (hd d hdd) (AVR.undef ..)

theorem T_skip1 {i d : Nat} {o : Oper} (hi : ops[i]? = some o) (hw : want ops o s = some false) (hs : Region.noSelect ops = true) (hf : Region.free .any ops listed i = true) (hr : (Region.ready .any ops listed).contains i = true)
    (hd : o.dst = some d) (hN : d < N) (hl : listed.setIfInBounds i true = listed') (h : EAnyT P N ops ((d, .tup []) :: s1) R1 fuel listed' ((d, .tup []) :: s) R K) : EAnyT P N ops s1 R1 (fuel + 1) listed s R K :=
  T_skip hi hw hs hf hr (fun d' hd' => by rw [hd] at hd'; cases hd'; exact hN) hl (by rw [hd]; exact h)
theorem EOps_skip1 {i d : Nat} {rest : List Nat} {o : Oper} (ho : ops[i]? = some o) (hw : want ops o s = some false) (hd : o.dst = some d) (hN : d < N) (h : EOps P N ops rest ((d, .tup []) :: s) R K) : EOps P N ops (i :: rest) s R K :=
  EOps_skip ho hw (fun d' hd' => by rw [hd] at hd'; cases hd'; exact hN) (by rw [hd]; exact h)

/-- An operation that may make memory, turns nothing that stood and yields y. -/
def HeavyV (P : Program) (o : Oper) (s : Slots) (R : List Res) (K : AV → List Res → Prop) : Prop :=
  ∀ N Q a w W, Now N s R a w W → o.wp P a w (fun a' w' => Below w.heap.size w w' ∧ ∃ y R' W' v, K y R' ∧ a' = a.put o.dst v ∧ AVR W' R' w' y v ∧ Trans w W R w' W' R' ∧ Sep w' W' R') Q

theorem T_heavy {i d : Nat} {o : Oper} (hi : ops[i]? = some o) (hw : want ops o s = some true) (hr : Region.ready .any ops listed = [i]) (hd : o.dst = some d) (hN : d < N) (hl : listed.setIfInBounds i true = listed')
    (h : HeavyV P o s R fun y R' => EAnyT P N ops ((d, back1 y) :: s1) R1 fuel listed' ((d, y) :: s) R' K) : EAnyT P N ops s1 R1 (fuel + 1) listed s R K := by
  subst hl
  intro G w1 W1 a w W hn1 ht hn hb hq
  refine wpAnyH_all hr (by simp) fun j hj => ?_
  obtain rfl : j = i := by simpa using hj
  unfold wpOp
  simp only [hi, want_real hn hw, if_true]
  refine .inl (Oper.wp_mono (fun a' w' hh => ?_) (h N _ a w W hn))
  obtain ⟨h1, y, R', W', v, h2, rfl, h3, h4, h5⟩ := hh
  have hb' : Below w1.heap.size w1 w' := hb.trans (h1.mono hb.size)
  rw [hd]
  exact ⟨hb', h2 G w1 W1 _ w' W' (hn1.put hN (back1_rel h3)) (ht.trans h4) ((hn.next h4 h5).put hN h3) hb' fun a'' w'' hr' => hq a'' w'' (hr'.after h4)⟩

theorem V_light {o : Oper} {d : Nat} {y : AV} {KV : AV → List Res → Prop} (hd : o.dst = some d) (hv : Light P o s R y) (h : KV y R) : HeavyV P o s R KV := by
  intro N Q a w W hn
  obtain ⟨v, hy, hr⟩ := hv N a w W hn
  unfold Oper.wp
  rw [hr w (Below.refl ..), Oper.upon_value]
  exact ⟨Below.refl _ _, y, R, W, v, h, rfl, hy, .refl .., hn.sep⟩

theorem V_pcall {o : Oper} {x : Operand} {args : Array Operand} {ats : Array TypeId} {f : FuncId} {args' : List AV} {Q : AV → List Res → Prop} {KV : AV → List Res → Prop} (ho : o.op = .call { callee := .value x, args := args, argTypes := ats }) (hx : ev s x = .c (.fn f [])) (hf : callable P f = true)
    (h0 : EFn P f args' [] Q) (ha : (args.toList.map (ev s)).map (E.lend R) = args') (hq : ∀ r S, Q r S → r.own = true ∧ S.all Res.own = true)
    (hk : ∀ r S, Q r S → KV (r.sh R.length) (R ++ S.map (Res.sh R.length))) : HeavyV P o s R KV := by
  have h : EFn P f ((args.toList.map (ev s)).map (E.lend R)) [] Q := ha ▸ h0
  intro N Q' a w W hn
  have hv := hn.ev x
  rw [hx] at hv
  obtain ⟨xs, e, h1⟩ := AR.fn_inv hv
  obtain rfl : xs = [] := by cases h1; rfl
  unfold Oper.wp
  have hr : (execOp a.eval o).run P w = .ok (.enter f (args.map a.eval)) w := by
    simp only [execOp, ho, resolve, e, Deferred.ofValue, Sem.run_bind, Sem.run_pure, Result.andThen_ok, invoke]
    simpa using run_callFunc hf _ w
  rw [hr, Oper.upon_enter]
  have hav : AVs W R w (args.toList.map (ev s)) (args.toList.map a.eval) := by
    refine ⟨by simp, fun i y v hy hu => ?_⟩
    rw [List.getElem?_map] at hy hu
    cases hi : args.toList[i]? with
    | none => rw [hi] at hy; cases hy
    | some z =>
      rw [hi] at hy hu
      obtain rfl : ev s z = y := by simpa using hy
      obtain rfl : a.eval z = v := by simpa using hu
      exact hn.ev z
  have hc := EFn.frame h hq w W _ hav hn.sep
  have hh : (args.toList.map a.eval).toArray = args.map a.eval := by
    apply Array.ext'; simp
  rw [hh] at hc
  refine hc.mono ?_
  rintro e' w' ⟨r, S, W', k1, ⟨v, rfl, k2⟩, k3, k4, k5⟩
  exact ⟨k5, _, _, W', v, hk r S k1, rfl, k2, k4, k3⟩

theorem Now.bool {a : Act} {w : World} {W : Wit} (hn : Now N s R a w W) {d : Nat} {b : Bool} (hd : E.get s d = .c (.sc (.bool b))) (c : Bool) (hc : b = c) : Now N ((d, .c (.sc (.bool c))) :: s) R a w W := by
  subst hc
  refine ⟨hn.size, hn.defers, fun t => ?_, hn.sep⟩
  simp only [E.get]
  split
  · rename_i e; subst e; rw [← hd]; exact hn.val d
  · exact hn.val t

/-- A truth value is looked at. -/
theorem T_split (d : Nat) {b : Bool} (hd : E.get s d = .c (.sc (.bool b))) (hd1 : E.get s1 d = .c (.sc (.bool b))) (h1 : b = true → EAnyT P N ops ((d, .c (.sc (.bool true))) :: s1) R1 fuel listed ((d, .c (.sc (.bool true))) :: s) R K)
    (h2 : b = false → EAnyT P N ops ((d, .c (.sc (.bool false))) :: s1) R1 fuel listed ((d, .c (.sc (.bool false))) :: s) R K) : EAnyT P N ops s1 R1 fuel listed s R K := by
  intro G w1 W1 a w W hn1 ht hn hb hq
  cases hbb : b with
  | true => exact h1 hbb G w1 W1 a w W (hn1.bool hd1 true hbb) ht (hn.bool hd true hbb) hb hq
  | false => exact h2 hbb G w1 W1 a w W (hn1.bool hd1 false hbb) ht (hn.bool hd false hbb) hb hq

end
end Go.Proofs.Ytpcnpmeimemeaaa.E
