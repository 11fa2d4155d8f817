/- Words of the session's own, forty-second part: a drawn region in which calls turn some of the resources while other variables are read at any time. -/
import Derived.Test.YtlodlnbhjghjoaaE41
import Derived.Test.YtlodlnbhjghjoaaE39
namespace Go.Proofs.Ytlodlnbhjghjoaa.E
open Go Go.RowKit
set_option linter.unusedVariables false
set_option linter.unusedSimpArgs false

section
variable {P : Program} {N n : Nat} {ops : Array Oper} {s : Slots} {R RB : List Res} {K : Slots → List Res → Prop} {fuel : Nat} {listed listed' : Array Bool} {ks : List Nat}

theorem BoxK.next {wB w w' : World} {WB W : Wit} (hsB : Sep wB WB RB) (ht : Trans wB WB RB w W R) (hs : Sep w W R) (hk : boxKeep RB R = true) (hb : BoxK ks RB WB wB w) (h : ∀ q ∈ ks, ∀ c, W.fs q c → w'.heap[c]? = w.heap[c]?) : BoxK ks RB WB wB w' := fun q hqk cs hq' c hc' => by
  obtain ⟨cs', hq2⟩ := boxKeep_at hk q cs hq'
  have hw' := (box_block hsB ht hs hq' hq2 c).1 hc'
  exact (h q hqk c hw').trans (hb q hqk cs hq' c hc')

/-- What makes memory alone. -/
theorem d_heavy (i : Nat) {o : Oper} (hi : ops[i]? = some o) (hw : want ops o s = some true) (h : Heavy P N o s R fun s' R' => EAnyD P N ops ks RB fuel listed' s' R' K) (hk : boxKeep RB R = true := by rfl) (hl : listed.setIfInBounds i true = listed' := by rfl) : DStep P N ops i ks RB fuel listed s R K := by
  subst hl
  intro G wB WB a w W hsB ht hn hb hc hj hq
  have hc' := hc.step hj
  unfold wpOp
  simp only [hi, want_real hn hw, if_true]
  refine .inl (Oper.wp_mono (fun a' w' hh => ?_) (h _ a w W hn))
  obtain ⟨hbl, s', R', W', h2, h3, h4⟩ := hh
  have hb' : BoxK ks RB WB wB w' := hb.next hsB ht hn.sep hk fun q _ c hc2 => hbl.block c (hn.sep.lt q c hc2)
  exact ⟨hb', h2 G wB WB a' w' W' hsB (ht.trans h4) h3 hb' hc' fun a'' w'' hr' => hq a'' w'' (hr'.after h4)⟩

def AllD (P : Program) (N : Nat) (ops : Array Oper) (ks : List Nat) (RB : List Res) (fuel : Nat) (listed : Array Bool) (s : Slots) (R : List Res) (K : Slots → List Res → Prop) : List Nat → Prop
  | [] => True
  | i :: l => DStep P N ops i ks RB fuel listed s R K ∧ AllD P N ops ks RB fuel listed s R K l
theorem AllD.mem : ∀ {l : List Nat}, AllD P N ops ks RB fuel listed s R K l → ∀ i ∈ l, DStep P N ops i ks RB fuel listed s R K
  | [], _, i, hi => by cases hi
  | j :: l, h, i, hi => by
    rcases List.mem_cons.1 hi with rfl | hi
    · exact h.1
    · exact AllD.mem h.2 i hi
theorem d_any (j : Nat) (l : List Nat) (h : AllD P N ops ks RB fuel listed s R K (j :: l)) (hr : Region.ready .any ops listed = j :: l := by kernel_rfl) : EAnyD P N ops ks RB (fuel + 1) listed s R K := by
  intro G wB WB a w W hsB ht hn hb hc hq
  refine ⟨fun h0 => (by rw [hr] at h0; cases h0), fun k hk => ?_⟩
  exact wpOp_mono (fun a' w' h' => .inl h') (h.mem k (hr ▸ hk) G wB WB a w W hsB ht hn hb hc hk hq)
end
end Go.Proofs.Ytlodlnbhjghjoaa.E
