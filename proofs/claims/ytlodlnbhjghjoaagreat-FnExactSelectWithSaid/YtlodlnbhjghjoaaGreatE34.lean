/- Words of the session's own, thirty-fourth part: an empty slice that is nil told as a row with nothing in it, against the beginning. -/
import Derived.Test.YtlodlnbhjghjoaaGreatF3
namespace Go.Proofs.YtlodlnbhjghjoaaGreat.E
open Go Go.RowKit
set_option linter.unusedVariables false
set_option linter.unusedSimpArgs false

theorem G_ghostS {P : Program} {N n : Nat} {s : Slots} {R : List Res} {Q : Exit → Slots → List Res → Prop} {c : Code} (t e k : Nat) (ht : E.get s t = .c (.sc (.slice none 0 0))) (hk : 0 < k)
    (h : GCode P N n c ((t, .c (.sl R.length 0 0 0)) :: s) (R ++ [Res.row e k []]) Q) : GCode P N n c s R Q := by
  intro w0 W0 R0 hl a w W hn htr
  obtain ⟨W1, t1, s1, q1⟩ := hn.sep.row (w' := w) (e := e) (k := k) (rows := []) (cells := []) (v := .slice none 0 0) rfl rfl rfl (Nat.le_refl _) (fun _ _ => rfl) hk (by simp) (World.ownsRow_nil w 0 e k) (fun b hb => by cases hb) (by exact (Ow.nil : Ow w [] [] _))
  have hn1 := hn.next t1 s1
  have hv : AVR W1 (R ++ [Res.row e k []]) w (.c (.sl R.length 0 0 0)) (.slice none 0 0) := by
    have := sl_whole (W' := W1) (R' := R ++ [.row e k []]) (w' := w) (i := R.length) (n := 0) (e := e) (k := k) (rows := []) (v := .slice none 0 0) (by simp) rfl q1 rfl s1
    exact this
  have hn2 : Now N ((t, .c (.sl R.length 0 0 0)) :: s) (R ++ [Res.row e k []]) a w W1 := by
    refine ⟨hn1.size, hn1.defers, fun t' => ?_, hn1.sep⟩
    simp only [E.get]
    split
    · rename_i e'
      subst e'
      have hx := hn1.val t
      rw [ht] at hx
      have hx' : AR W1 (R ++ [Res.row e k []]) w [.sc (.slice none 0 0)] [_] := hx
      rw [AR.sc_inv hx']
      exact hv
    · exact hn1.val t'
  exact h w0 W0 R0 hl a w W1 hn2 (htr.trans t1)
end Go.Proofs.YtlodlnbhjghjoaaGreat.E
