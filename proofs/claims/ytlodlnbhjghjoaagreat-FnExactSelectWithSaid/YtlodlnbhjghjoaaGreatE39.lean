/- Words of the session's own, thirty-ninth part: a drawn region in which a variable is stored into while rows, and other variables, are read at any time. -/
import Derived.Test.YtlodlnbhjghjoaaGreatF3
namespace Go.Proofs.YtlodlnbhjghjoaaGreat.E
open Go Go.RowKit
set_option linter.unusedVariables false
set_option linter.unusedSimpArgs false

/-- These variables hold what they held at the beginning. -/
def BoxK (ks : List Nat) (RB : List Res) (WB : Wit) (wB w : World) : Prop := ∀ j ∈ ks, ∀ cs, RB[j]? = some (.box cs) → ∀ c, WB.fs j c → w.heap[c]? = wB.heap[c]?

section
variable {P : Program} {N n : Nat} {ops : Array Oper} {s : Slots} {R RB : List Res} {K : Slots → List Res → Prop} {fuel : Nat} {listed listed' : Array Bool} {ks : List Nat}

def EAnyD (P : Program) (N : Nat) (ops : Array Oper) (ks : List Nat) (RB : List Res) (fuel : Nat) (listed : Array Bool) (s : Slots) (R : List Res) (K : Slots → List Res → Prop) : Prop :=
  ∀ (G : Act → World → Prop) (wB : World) (WB : Wit) a w W, Sep wB WB RB → Trans wB WB RB w W R → Now N s R a w W → BoxK ks RB WB wB w → Closed .any ops listed → (∀ a' w', Reach N w W R K a' w' → G a' w') →
    wpAnyJ P .any ops (fun ex a' w' => ex = .normal ∧ G a' w') fuel (fun w' => BoxK ks RB WB wB w') listed a w

theorem E_drawD (ks : List Nat) {id : Nat} {Q : Exit → Slots → List Res → Prop} (hm : P.follows .mixedOrders = true) (h : EAnyD P N ops ks R ops.size (Array.replicate ops.size false) s R (Q .normal)) : ECode P N (.region id ops true) s R Q := by
  intro a w W hn
  obtain ⟨h1, h2⟩ := hn.draw
  have := h (fun a' w' => Reach N w W R (Q .normal) a' w') { w with drawn := w.drawn + 1 } W a _ W h1.sep (.refl ..) h1 (fun _ _ _ _ _ _ => rfl) (Closed.start _ _ _) fun a' w' hr => hr.after h2
  refine wp_mono (wp_region_any hm (wpAny_of_J _ _ _ _ _ this)) ?_
  rintro e a' w' ⟨rfl, hr⟩
  exact hr
theorem G_drawD (ks : List Nat) {id : Nat} {Q : Exit → Slots → List Res → Prop} (hm : P.follows .mixedOrders = true) (h : EAnyD P N ops ks R ops.size (Array.replicate ops.size false) s R (Q .normal)) : GCode P N n (.region id ops true) s R Q := G_E (E_drawD ks hm h)

theorem D_done (hr : Region.ready .any ops listed = []) (h : K s R) : EAnyD P N ops ks RB fuel listed s R K :=
  fun G wB WB a w W _ _ hn hb hc hq => wpAnyJ_done hr ⟨rfl, hq a w ⟨s, R, W, h, hn, .refl ..⟩⟩ fuel

theorem d_pure' (i : Nat) {d : Nat} {o : Oper} {y : AV} (hi : ops[i]? = some o) (hw : want ops o s = some true) (hd : o.dst = some d) (hv : Pure P o s R y) (h : EAnyD P N ops ks RB fuel listed' ((d, y) :: s) R K)
    (hs : Region.noSelect ops = true := by kernel_rfl) (hf : Region.free .any ops listed i = true := by kernel_rfl) (hr : (Region.ready .any ops listed).contains i = true := by kernel_rfl) (hN : d < N := by decide) (hl : listed.setIfInBounds i true = listed' := by rfl) : EAnyD P N ops ks RB (fuel + 1) listed s R K := by
  subst hl
  intro G wB WB a w W hsB ht hn hb hc hq
  obtain ⟨v, hy, hrun⟩ := hv N a w W hn
  refine wpAnyJ_take0 hc hi hs hf hr (fun c a' w' hp => by cases hp.1) (v := v) (.inl ⟨want_real hn hw, fun w' _ => hrun w'⟩) hb ?_
  rw [hd]
  exact h G wB WB _ w W hsB ht (hn.put hN hy) hb (hc.step (by simpa using hr)) hq

theorem d_load' (i : Nat) {d ib off t : Nat} {o : Oper} {x : Operand} {y : AV} {cs cs' : List AC} (hi : ops[i]? = some o) (hw : want ops o s = some true) (hd : o.dst = some d) (ho : o.op = .load t x) (hx : ev s x = .c (.bp ib off)) (hy : ldv P R t (.c (.bp ib off)) = some y) (h : EAnyD P N ops ks RB fuel listed' ((d, y) :: s) R K)
    (h1 : RB[ib]? = some (.box cs) := by rfl) (h2 : R[ib]? = some (.box cs') := by rfl) (hks : ks.contains ib = true := by rfl) (hnm : isMv o = false := by rfl) (hs : Region.noSelect ops = true := by kernel_rfl) (hf : Region.free .any ops listed i = true := by kernel_rfl) (hr : (Region.ready .any ops listed).contains i = true := by kernel_rfl) (hN : d < N := by decide) (hl : listed.setIfInBounds i true = listed' := by rfl) : EAnyD P N ops ks RB (fuel + 1) listed s R K := by
  subst hl
  intro G wB WB a w W hsB ht hn hb hc hq
  have hvx := hn.ev x
  rw [hx] at hvx
  obtain ⟨agg, n, b, oo, vs, g1, g2, g3, g4, g5, g6⟩ := ldv_cells hn.sep hvx hy
  have hblk : W.fs ib b := by
    obtain ⟨b', arr', e', k1', k2', -, -⟩ := hn.sep.res ib _ h2
    generalize a.eval x = vx at *
    cases hvx with
    | bp m1 m2 m3 _ =>
      obtain ⟨b2, e1, e2⟩ := m3 _ h2
      rw [e1] at k1'
      obtain rfl : b2 = b' := by cases k1'; rfl
      rw [g2] at e2
      obtain ⟨rfl, -⟩ : b = b2 ∧ True := by cases e2; exact ⟨rfl, trivial⟩
      exact (k2' b).2 rfl
  have hblkB : WB.fs ib b := (box_block hsB ht hn.sep h1 h2 b).2 hblk
  refine wpAnyJ_take hc hi hnm hs hf hr (fun c a' w' hp => by cases hp.1) (v := asV agg vs) (.inl ⟨want_real hn hw, fun w' hb' => ?_⟩) hb ?_
  · have hm : ib ∈ ks := by simpa using hks
    have e : w'.heap[b]? = w.heap[b]? := (hb' ib hm _ h1 b hblkB).trans (hb ib hm _ h1 b hblkB).symm
    have h5' : ∀ j u, vs[j]? = some u → w'.cell? ⟨b, oo + j, none⟩ = some u := fun j u hj => by
      have := g5 j u hj
      simp only [World.cell?] at this ⊢
      rw [e]; exact this
    simp only [execOp, ho, Instr.loadAt, g2, Instr.sureAddr, Sem.run_bind, Sem.run_pure, Result.andThen_ok, run_loadVar_ g1 vs g3 g4 h5']
  · rw [hd]
    exact h G wB WB _ w W hsB ht (hn.put hN g6) hb (hc.step (by simpa using hr)) hq

/-- Number i comes up. -/
def DStep (P : Program) (N : Nat) (ops : Array Oper) (i : Nat) (ks : List Nat) (RB : List Res) (fuel : Nat) (listed : Array Bool) (s : Slots) (R : List Res) (K : Slots → List Res → Prop) : Prop :=
  ∀ (G : Act → World → Prop) (wB : World) (WB : Wit) a w W, Sep wB WB RB → Trans wB WB RB w W R → Now N s R a w W → BoxK ks RB WB wB w → Closed .any ops listed → i ∈ Region.ready .any ops listed → (∀ a' w', Reach N w W R K a' w' → G a' w') →
    wpOp P ops (fun ex a' w' => ex = .normal ∧ G a' w') i (fun a' w' => BoxK ks RB WB wB w' ∧ wpAnyJ P .any ops (fun ex a' w' => ex = .normal ∧ G a' w') fuel (fun w' => BoxK ks RB WB wB w') (listed.setIfInBounds i true) a' w') a w

theorem d_see' (i : Nat) {d : Nat} {o : Oper} {y : AV} (hi : ops[i]? = some o) (hw : want ops o s = some true) (hd : o.dst = some d) (hv : Light P o s R y) (h : EAnyD P N ops ks RB fuel listed' ((d, y) :: s) R K) (hN : d < N := by decide) (hl : listed.setIfInBounds i true = listed' := by rfl) : DStep P N ops i ks RB fuel listed s R K := by
  subst hl
  intro G wB WB a w W hsB ht hn hb hc hj hq
  obtain ⟨v, hy, hrun⟩ := hv N a w W hn
  unfold wpOp
  simp only [hi, want_real hn hw, if_true]
  refine .inl ?_
  unfold Oper.wp
  rw [hrun w (Below.refl ..), Oper.upon_value, hd]
  exact ⟨hb, h G wB WB _ w W hsB ht (hn.put hN hy) hb (hc.step hj) hq⟩

theorem d_store' (i : Nat) {ib off t : Nat} {o : Oper} {x y : Operand} {ys : List AC} {R' : List Res} (hi : ops[i]? = some o) (hw : want ops o s = some true) (ho : o.op = .store t x y) (hd : o.dst = none)
    (hx : ev s x = .c (.bp ib off)) (hys : cellsOf (ev s y) = some ys) (hR : stv P R t (.c (.bp ib off)) ys = some R') (h : EAnyD P N ops ks RB fuel listed' s R' K) (hk : boxKeep RB R = true := by rfl) (hib : ks.contains ib = false := by rfl) (hl : listed.setIfInBounds i true = listed' := by rfl) : DStep P N ops i ks RB fuel listed s R K := by
  subst hl
  intro G wB WB a w W hsB ht hn hb hc hj hq
  have hvx := hn.ev x
  rw [hx] at hvx
  obtain ⟨w', g1, g2, g3, b, g4, g5⟩ := stv_box_run (P := P) hn.sep hvx (hn.ev y) hys hR
  have hb' : BoxK ks RB WB wB w' := fun q hqk cs hq' c hc' => by
    obtain ⟨cs', hq2⟩ := boxKeep_at hk q cs hq'
    have hw' := (box_block hsB ht hn.sep hq' hq2 c).1 hc'
    refine (g5 c fun e => ?_).trans (hb q hqk cs hq' c hc')
    subst e
    obtain rfl := hn.sep.apart _ _ _ hw' g4
    have : ks.contains q = true := by simpa using hqk
    rw [this] at hib; cases hib
  have hs3 : Sep w' W R' := g3
  unfold wpOp
  simp only [hi, want_real hn hw, if_true]
  refine .inl ?_
  unfold Oper.wp
  have hrr : (execOp a.eval o).run P w = .ok .skip w' := by
    simp only [execOp, ho, Sem.run_bind, g1, Result.andThen_ok, Sem.run_pure]
  rw [hrr, Oper.upon_skip, hd]
  exact ⟨hb', h G wB WB a w' W hsB (ht.trans g2) (hn.next g2 g3) hb' (hc.step hj) fun a'' w'' hr' => hq a'' w'' (hr'.after g2)⟩

theorem D_one (i : Nat) (h : DStep P N ops i ks RB fuel listed s R K) (hr : Region.ready .any ops listed = [i] := by kernel_rfl) : EAnyD P N ops ks RB (fuel + 1) listed s R K := by
  intro G wB WB a w W hsB ht hn hb hc hq
  refine ⟨fun h0 => (by rw [hr] at h0; cases h0), fun k hk => ?_⟩
  have hk' := hk
  rw [hr] at hk'
  obtain rfl : k = i := by simpa using hk'
  exact wpOp_mono (fun a' w' h' => .inl h') (h G wB WB a w W hsB ht hn hb hc hk hq)

theorem D_two (i j : Nat) (h1 : DStep P N ops i ks RB fuel listed s R K) (h2 : DStep P N ops j ks RB fuel listed s R K) (hr : Region.ready .any ops listed = [i, j] := by kernel_rfl) : EAnyD P N ops ks RB (fuel + 1) listed s R K := by
  intro G wB WB a w W hsB ht hn hb hc hq
  refine ⟨fun h0 => (by rw [hr] at h0; cases h0), fun k hk => ?_⟩
  have hk' := hk
  rw [hr] at hk'
  rcases List.mem_cons.1 hk' with rfl | hk'
  · exact wpOp_mono (fun a' w' h' => .inl h') (h1 G wB WB a w W hsB ht hn hb hc hk hq)
  · obtain rfl : k = j := by simpa using hk'
    exact wpOp_mono (fun a' w' h' => .inl h') (h2 G wB WB a w W hsB ht hn hb hc hk hq)
end
end Go.Proofs.YtlodlnbhjghjoaaGreat.E
