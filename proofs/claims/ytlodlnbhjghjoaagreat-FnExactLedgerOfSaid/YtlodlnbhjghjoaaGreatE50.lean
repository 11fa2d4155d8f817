/- Words of the session's own, fiftieth part: told facts (pins), and rows within rows, taken apart and put together by them. -/
import Derived.Test.YtlodlnbhjghjoaaGreatF4
namespace Go.Proofs.YtlodlnbhjghjoaaGreat.E
open Go Go.RowKit
set_option linter.unusedVariables false
set_option linter.unusedSimpArgs false

/-! ### 1. Telling anew, where something is found out -/
def ShiftX {α : Type} (N : Nat) (s : Slots) (R : List Res) (s' : α → Slots) (R' : α → List Res) : Prop :=
 ∀ a w W,Now N s R a w W → ∃ x W',Now N (s' x) (R' x) a w W'∧Trans w W R w W' (R' x)

section
variable {P:Program} {N n:Nat} {s:Slots} {R:List Res} {Q:Exit→Slots→List Res→Prop} {K:Slots→List Res→Prop} {c:Code} {ops:Array Oper} {L:List Nat}

theorem ShiftX.E {α : Type} {s' : α → Slots} {R' : α → List Res} (h : ShiftX N s R s' R') (k : ∀ x, ECode P N c (s' x) (R' x) Q) : ECode P N c s R Q := by
 intro a w W hn
 obtain⟨x,W',h1,h2⟩:=h a w W hn
 exact wp_mono (k x a w W' h1) fun e a' w' hr=>hr.after h2
theorem ShiftX.G {α : Type} {s' : α → Slots} {R' : α → List Res} (h : ShiftX N s R s' R') (k : ∀ x, GCode P N n c (s' x) (R' x) Q) : GCode P N n c s R Q := by
 intro w0 W0 R0 h0 a w W hn ht
 obtain⟨x,W',h1,h2⟩:=h a w W hn
 exact k x w0 W0 R0 h0 a w W' h1 (ht.trans h2)
theorem ShiftX.X {α : Type} {s' : α → Slots} {R' : α → List Res} (h : ShiftX N s R s' R') (k : ∀ x, EOps P N ops L (s' x) (R' x) K) : EOps P N ops L s R K := by
 intro Q a w W hn hq
 obtain⟨x,W',h1,h2⟩:=h a w W hn
 exact k x Q a w W' h1 fun a' w' hr=>hq a' w' (hr.after h2)
end

theorem Now.retell {N : Nat} {s : Slots} {R : List Res} {a : Act} {w : World} {W : Wit} (h : Now N s R a w W) {t : Nat} {y : AV} (hy : AVR W R w y (a.tmps.getD t undef)) : Now N ((t, y) :: s) R a w W := by
 refine⟨h.size,h.defers,fun t'=>?_,h.sep⟩
 simp only [E.get]
 split
 ·rename_i e;subst e;exact hy
 exact h.val t'

/-! ### 2. Pins -/
theorem Sep.pin {w : World} {W : Wit} {R : List Res} {x : AC} {u : Value} (hs : Sep w W R) (h : AR W R w [x] [u]) : ∃ W', Trans w W R w W' (R ++ [.pin x u]) ∧ Sep w W' (R ++ [.pin x u]) := by
 have:=hs.more (w':=w) (r:=.pin x u) (v:=undef) (F:=fun _=>False) rfl rfl rfl (Nat.le_refl _) (fun _ _=>rfl) (fun b h=>h.elim) (fun e=>by cases e) (fun tr=>⟨fun _ h=>h,h.next tr⟩)
 exact⟨_,this.1,this.2⟩

section
variable {N:Nat} {s:Slots} {R:List Res}

/-- A cell's value is given a name; what was told of it is put down. -/
theorem X_pin (t : Nat) {x : AC} (ht : get s t = .c x) : ShiftX N s R (fun v : Value => (t, .c (.sc v)) :: s) (fun v => R ++ [.pin x v]) := by
 intro a w W hn
 have hv:=hn.val t
 rw [ht] at hv
 have hv':AR W R w [x] [a.tmps.getD t undef]:=hv
 obtain⟨W',t1,s1⟩:=hn.sep.pin hv'
 exact⟨_,W',(hn.next t1 s1).retell (AR.sc1 (hv'.one _ (List.mem_cons_self ..))),t1⟩

end

/-! ### 3. Rows within rows -/
section
variable {N:Nat} {s:Slots} {R:List Res}
end
end Go.Proofs.YtlodlnbhjghjoaaGreat.E
