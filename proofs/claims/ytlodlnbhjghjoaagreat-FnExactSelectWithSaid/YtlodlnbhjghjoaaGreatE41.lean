/- Words of the session's own, forty-first part: a region that draws its order, walked in every order: whatever turns memory may come up beside what looks at it. -/
import Derived.Test.YtlodlnbhjghjoaaGreatE40
namespace Go.Proofs.YtlodlnbhjghjoaaGreat.E
open Go Go.RowKit
set_option linter.unusedVariables false
set_option linter.unusedSimpArgs false

def EAnyU (P : Program) (N : Nat) (ops : Array Oper) (fuel : Nat) (listed : Array Bool) (s : Slots) (R : List Res) (K : Slots → List Res → Prop) : Prop :=
  ∀ (G : Act → World → Prop) a w W, Now N s R a w W → Closed .any ops listed → (∀ a' w', Reach N w W R K a' w' → G a' w') → wpAnyJ P .any ops (fun ex a' w' => ex = .normal ∧ G a' w') fuel (fun _ => True) listed a w

def UStep (P : Program) (N : Nat) (ops : Array Oper) (i : Nat) (fuel : Nat) (listed : Array Bool) (s : Slots) (R : List Res) (K : Slots → List Res → Prop) : Prop :=
  ∀ (G : Act → World → Prop) a w W, Now N s R a w W → Closed .any ops listed → i ∈ Region.ready .any ops listed → (∀ a' w', Reach N w W R K a' w' → G a' w') →
    wpOp P ops (fun ex a' w' => ex = .normal ∧ G a' w') i (fun a' w' => wpAnyJ P .any ops (fun ex a' w' => ex = .normal ∧ G a' w') fuel (fun _ => True) (listed.setIfInBounds i true) a' w') a w

section
variable {P : Program} {N n : Nat} {ops : Array Oper} {s : Slots} {R : List Res} {K : Slots → List Res → Prop} {fuel : Nat} {listed listed' : Array Bool}

theorem E_drawU {id : Nat} {Q : Exit → Slots → List Res → Prop} (hm : P.follows .mixedOrders = true) (h : EAnyU P N ops ops.size (Array.replicate ops.size false) s R (Q .normal)) : ECode P N (.region id ops true) s R Q := by
  intro a w W hn
  obtain ⟨h1, h2⟩ := hn.draw
  have := h (fun a' w' => Reach N w W R (Q .normal) a' w') a { w with drawn := w.drawn + 1 } W h1 (Closed.start _ _ _) fun a' w' hr => hr.after h2
  refine wp_mono (wp_region_any hm (wpAny_of_J _ _ _ _ _ this)) ?_
  rintro e a' w' ⟨rfl, hr⟩
  exact hr
theorem G_drawU {id : Nat} {Q : Exit → Slots → List Res → Prop} (hm : P.follows .mixedOrders = true) (h : EAnyU P N ops ops.size (Array.replicate ops.size false) s R (Q .normal)) : GCode P N n (.region id ops true) s R Q := G_E (E_drawU hm h)

theorem u_done (h : K s R) (hr : Region.ready .any ops listed = [] := by kernel_rfl) : EAnyU P N ops fuel listed s R K :=
  fun G a w W hn hc hq => wpAnyJ_done hr ⟨rfl, hq a w ⟨s, R, W, h, hn, .refl ..⟩⟩ fuel

theorem u_pure (i : Nat) {d : Nat} {o : Oper} {y : AV} (hi : ops[i]? = some o) (hw : want ops o s = some true) (hd : o.dst = some d) (hv : Pure P o s R y) (h : EAnyU P N ops fuel listed' ((d, y) :: s) R K) (hs : Region.noSelect ops = true := by kernel_rfl) (hf : Region.free .any ops listed i = true := by kernel_rfl) (hr : (Region.ready .any ops listed).contains i = true := by kernel_rfl) (hN : d < N := by decide) (hl : listed.setIfInBounds i true = listed' := by rfl) : EAnyU P N ops (fuel + 1) listed s R K := by
  subst hl
  intro G a w W hn hc hq
  obtain ⟨v, hy, hrun⟩ := hv N a w W hn
  refine wpAnyJ_take0 hc hi hs hf hr (fun c a' w' hp => by cases hp.1) (v := v) (.inl ⟨want_real hn hw, fun w' _ => hrun w'⟩) trivial ?_
  rw [hd]
  exact h G _ w W (hn.put hN hy) (hc.step (by simpa using hr)) hq

theorem u_skip (i : Nat) {o : Oper} (hi : ops[i]? = some o) (hw : want ops o s = some false) (hd : ∀ d, o.dst = some d → d < N) (h : EAnyU P N ops fuel listed' (fill s o.dst) R K) (hs : Region.noSelect ops = true := by kernel_rfl) (hf : Region.free .any ops listed i = true := by kernel_rfl) (hr : (Region.ready .any ops listed).contains i = true := by kernel_rfl) (hl : listed.setIfInBounds i true = listed' := by rfl) : EAnyU P N ops (fuel + 1) listed s R K := by
  subst hl
  intro G a w W hn hc hq
  refine wpAnyJ_take0 hc hi hs hf hr (fun c a' w' hp => by cases hp.1) (v := undef) (.inr ⟨want_real hn hw, rfl⟩) trivial ?_
  refine h G _ w W ?_ (hc.step (by simpa using hr)) hq
  cases hdd : o.dst with
  | none => exact hn
  | some d => exact hn.put (hd d hdd) (AVR.undef ..)

theorem u_skip1 (i : Nat) {d : Nat} {o : Oper} (hi : ops[i]? = some o) (hw : want ops o s = some false) (hd : o.dst = some d) (h : EAnyU P N ops fuel listed' ((d, .tup []) :: s) R K) (hs : Region.noSelect ops = true := by kernel_rfl) (hf : Region.free .any ops listed i = true := by kernel_rfl) (hr : (Region.ready .any ops listed).contains i = true := by kernel_rfl) (hN : d < N := by decide) (hl : listed.setIfInBounds i true = listed' := by rfl) : EAnyU P N ops (fuel + 1) listed s R K :=
  u_skip i hi hw (fun d' hd' => by rw [hd] at hd'; cases hd'; exact hN) (by rw [hd]; exact h) hs hf hr hl

theorem u_op (i : Nat) {o : Oper} (hi : ops[i]? = some o) (hw : want ops o s = some true) (h : EOp P N o s R fun s' R' => EAnyU P N ops fuel listed' s' R' K) (hl : listed.setIfInBounds i true = listed' := by rfl) : UStep P N ops i fuel listed s R K := by
  subst hl
  intro G a w W hn hc hj hq
  have hc' := hc.step hj
  unfold wpOp
  simp only [hi, want_real hn hw, if_true]
  refine .inl (Oper.wp_mono (fun a' w' hh => ?_) (h _ a w W hn))
  obtain ⟨s', R', W', h2, h3, h4⟩ := hh
  exact h2 G a' w' W' h3 hc' fun a'' w'' hr' => hq a'' w'' (hr'.after h4)

def AllU (P : Program) (N : Nat) (ops : Array Oper) (fuel : Nat) (listed : Array Bool) (s : Slots) (R : List Res) (K : Slots → List Res → Prop) : List Nat → Prop
  | [] => True
  | i :: l => UStep P N ops i fuel listed s R K ∧ AllU P N ops fuel listed s R K l
theorem AllU.mem : ∀ {l : List Nat}, AllU P N ops fuel listed s R K l → ∀ i ∈ l, UStep P N ops i fuel listed s R K
  | [], _, i, hi => by cases hi
  | j :: l, h, i, hi => by
    rcases List.mem_cons.1 hi with rfl | hi
    · exact h.1
    · exact AllU.mem h.2 i hi

/-- All that may come up come up. -/
theorem u_any (j : Nat) (l : List Nat) (h : AllU P N ops fuel listed s R K (j :: l)) (hr : Region.ready .any ops listed = j :: l := by kernel_rfl) : EAnyU P N ops (fuel + 1) listed s R K := by
  intro G a w W hn hc hq
  refine ⟨fun h0 => (by rw [hr] at h0; cases h0), fun k hk => ?_⟩
  have hs := h.mem k (hr ▸ hk) G a w W hn hc hk hq
  exact wpOp_mono (fun a' w' h' => .inl ⟨trivial, h'⟩) hs

theorem u_split (d : Nat) {b : Bool} (hd : E.get s d = .c (.sc (.bool b))) (h1 : b = true → EAnyU P N ops fuel listed ((d, .c (.sc (.bool true))) :: s) R K) (h2 : b = false → EAnyU P N ops fuel listed ((d, .c (.sc (.bool false))) :: s) R K) : EAnyU P N ops fuel listed s R K := by
  intro G a w W hn hc hq
  cases hbb : b with
  | true => exact h1 hbb G a w W (hn.bool hd true hbb) hc hq
  | false => exact h2 hbb G a w W (hn.bool hd false hbb) hc hq
end

theorem u_call {P : Program} {N : Nat} {ops : Array Oper} {s : Slots} {R : List Res} {K : Slots → List Res → Prop} {fuel : Nat} {listed listed' : Array Bool} {o : Oper} (i : Nat) {d : Nat} {x : Operand} {args : Array Operand} {ats : Array TypeId} {f : FuncId} {args' : List AV} {Q : AV → List Res → Prop} (hi : ops[i]? = some o) (hw : want ops o s = some true) (ho : o.op = .call { callee := .value x, args := args, argTypes := ats }) (hd : o.dst = some d) (hx : ev s x = .c (.fn f [])) (hf : callable P f = true)
    (h : EFn P f args' [] Q) (hk : ∀ r S, Q r S → EAnyU P N ops fuel listed' ((d, r.sh R.length) :: s) (R ++ S.map (Res.sh R.length)) K) (ha : (args.toList.map (E.ev s)).map (E.lend R) = args' := by repeat' (first | (refine lend_whole rfl ?_; first | assumption | exact ints_len _ | exact pairs_len _ | exact quads_len _ | exact quints_len _ | exact bools_len _ | (simp [ints_len, bools_len, pairs_len, quads_len, quints_len, part_len, *]; done) | (simp [ints_len, bools_len, pairs_len, quads_len, quints_len]; omega) | rfl) | refine agg_eq ?_ | (refine lendC_whole rfl ?_; first | assumption | exact ints_len _ | exact pairs_len _ | exact quads_len _ | exact quints_len _ | exact bools_len _ | (simp [ints_len, bools_len, pairs_len, quads_len, quints_len, part_len, *]; done) | (simp [ints_len, bools_len, pairs_len, quads_len, quints_len]; omega) | rfl) | refine cons_eq ?_ ?_ | rfl | (simp [E.lend, E.lendC, E.ev, E.cv, E.get, E.fill', E.fill, AV.sh, AC.sh, Res.sh, ints_len, *]; done))) (hq : ∀ r S, Q r S → r.own = true ∧ S.all Res.own = true := by rintro r S ⟨rfl, rfl⟩; exact ⟨rfl, rfl⟩) (hN : d < N := by decide) (hl : listed.setIfInBounds i true = listed' := by rfl) : UStep P N ops i fuel listed s R K :=
  u_op i hi hw (Heavy.op (H_pcall1 ho hd hN hx hf h ha hq hk)) hl

theorem u_frame {P : Program} {N : Nat} {ops : Array Oper} {s : Slots} {R : List Res} {K : Slots → List Res → Prop} {fuel : Nat} {listed listed' : Array Bool} {o : Oper} (i : Nat) {d : Nat} {x : Operand} {args : Array Operand} {ats : Array TypeId} {f : FuncId} {args' : List AV} {Rs : List Res} {Q : AV → List Res → Prop} (σ : List Nat) (hi : ops[i]? = some o) (hw : want ops o s = some true) (ho : o.op = .call { callee := .value x, args := args, argTypes := ats }) (hd : o.dst = some d) (hx : ev s x = .c (.fn f [])) (hf : callable P f = true)
    (hR : reR 0 σ R = Rs) (h : EFn P f args' Rs Q) (hk : ∀ r R', (∃ r0 S, Q r0 S ∧ r = r0.un R.length σ ∧ R' = back σ R S) → EAnyU P N ops fuel listed' ((d, r) :: s) R' K) (hσ : okσ 0 R σ = true := by rfl) (ha : (args.toList.map (E.ev s)).map (AV.sub R σ) = args' := by repeat' (first | (refine sub_whole rfl ?_; first | assumption | exact ints_len _ | exact pairs_len _ | exact quads_len _ | exact quints_len _ | exact bools_len _ | (simp [ints_len, bools_len, pairs_len, quads_len, quints_len, part_len, *]; done) | (simp [ints_len, bools_len, pairs_len, quads_len, quints_len]; omega) | rfl) | refine agg_eq ?_ | (refine subC_whole rfl ?_; first | assumption | exact ints_len _ | exact pairs_len _ | exact quads_len _ | exact quints_len _ | exact bools_len _ | (simp [ints_len, bools_len, pairs_len, quads_len, quints_len, part_len, *]; done) | (simp [ints_len, bools_len, pairs_len, quads_len, quints_len]; omega) | rfl) | refine cons_eq ?_ ?_ | rfl | (simp [E.lend, E.lendC, E.ev, E.cv, E.get, E.fill', E.fill, AV.sh, AC.sh, Res.sh, ints_len, *]; done))) (hq : ∀ r S, Q r S → r.own = true ∧ S.all Res.own = true := by rintro r S ⟨rfl, rfl⟩; exact ⟨rfl, rfl⟩) (hN : d < N := by decide) (hl : listed.setIfInBounds i true = listed' := by rfl) : UStep P N ops i fuel listed s R K :=
  u_op i hi hw (EOp_call1 ho hd hN hx hf (EFn.frame' σ hσ hR ha h hq) (by simp) hk) hl
end Go.Proofs.YtlodlnbhjghjoaaGreat.E
