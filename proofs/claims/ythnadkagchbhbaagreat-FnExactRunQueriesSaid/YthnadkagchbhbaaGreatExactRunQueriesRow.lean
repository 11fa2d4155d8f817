/- The program's law 'FnExactRunQueries' holds, for all arguments: no condition. -/
import Derived.Test.YthnadkagchbhbaaGreatRows
import Derived.Test.YthnadkagchbhbaaGreatA189
import Derived.Test.YthnadkagchbhbaaGreatF2
import Derived.Test.YthnadkagchbhbaaGreatF4
import Derived.WalkKit
import Derived.ProofKit
import Derived.OpenShut
import Derived.ShutString
import Derived.ChangeOld
import Derived.Below
import Derived.Carry
import Derived.SizedLaws
import Derived.Lib.SmallJoins
namespace Go.Proofs.YthnadkagchbhbaaGreat.fnExactRunQueries
open Go.ChangeShapes Go.WideShapes Go.ChangeAt Go.RowKit Go.Joins Go.Proofs.YthnadkagchbhbaaGreat.E
set_option linter.unusedVariables false

theorem pairs_av (l : List (Int × Int × Unit)) : pairs (List.map (fun p : Int × Int × Unit => (p.1, p.2.1)) l) = List.map (Ty.enc (.st (.cons .int (.cons .int .nil)))) l := by
 simp only [pairs, List.map_map]
 rfl
def tyPr : Ty := .st (.cons .int (.cons .int .nil))
def tyPrs : Ty := .sl tyPr
def prsOf (y : tyPrs.den) : List (Int × Int) := List.map (fun p : Int × Int × Unit => (p.1, p.2.1)) y
theorem prs_av (y : tyPrs.den) : tyPrs.av y = .c (.ro (pairs (prsOf y))) := congrArg (fun z => AV.c (AC.ro z)) (pairs_av y).symm
def tySet : Ty := .st (.cons .int (.cons .int (.cons .int .nil)))
def setOf (y : tySet.den) : Sett := ⟨y.1, y.2.1, y.2.2.1⟩
theorem set_av (y : tySet.den) : tySet.av y = .agg (setC (setOf y)) := rfl

theorem own : ownKnob Tryz.prog.godebug = none := by kernel_rfl
theorem laidOut : laidOutB Tryz.prog = true := by kernel_rfl

set_option maxRecDepth 100000 in
theorem lifted (os : Os) (started : os.Started) (H : Type) (enc : TypeId × Value → H) :
  ReturnsInHanded {} Tryz.checked os 3 .any (Rows.fnExactRunQueriesSpec.pre6 enc Tryz.prog Tryz.f3 Rows.fnExactRunQueriesRow.domain false) (Rows.fnExactRunQueriesSpec.post enc Tryz.prog Tryz.f3 false true false false) := by
 refine returnsInHanded_of_change_sized (C := Tryz.checked) own started (by kernel_rfl) Tryz.func3
  (ChangeSpec.witness6 (enc := enc) (C := Tryz.checked) false ⟨#[], #[.slice none 0 0, .agg #[.int .i64 0, .int .i64 0, .int .i64 0], .slice none 0 0], []⟩ 8 (by kernel_rfl) (by kernel_rfl) (by kernel_rfl) (by kernel_rfl)) ?_
 intro W base args ds gs before hval0 hW hcnd hsz0 _
 have hval : ∀ (j : Nat) t v, Tryz.f3.params[j]? = some t → args[j]? = some v → Value.okWide Tryz.prog W .any base t v := hval0
 have hW' := hW
 obtain ⟨p, q, hA0, hV, rfl, hfz, hnd⟩ := hW
 have hA : DataW.TrodAll enc Tryz.prog W 0 (fun _ => true) true Tryz.f3.params.toList args.toList ds p := hA0
 rw [Tryz.params3] at hA hval
 obtain ⟨v0, vs0, d0, ds0, p0, q0, hargs, rfl, rfl, h0, r0⟩ := trodAll_cons hA
 obtain ⟨v1, vs1, d1, ds1, p1, q1, rfl, rfl, rfl, h1, r1⟩ := trodAll_cons r0
 obtain ⟨v2, vs2, d2, ds2, p2, q2, rfl, rfl, rfl, h2, r2⟩ := trodAll_cons r1
 obtain ⟨rfl, rfl, rfl⟩ := trodAll_nil r2
 obtain rfl : args = #[v0, v1, v2] := by cases args; simp_all
 obtain ⟨rfl, rfl⟩ := trodVars_none hV
 have lt0 : ∀ x ∈ p0, x.block < W.heap.size := by obtain ⟨m, hm⟩ := h0; exact DataW.trod_lt m _ _ _ hm
 obtain ⟨y0, ok0, av0⟩ := open_any (τ := (.sl .int)) (by kernel_rfl) (hval 0 22 v0 rfl rfl) h0
 have lt1 : ∀ x ∈ p1, x.block < W.heap.size := by obtain ⟨m, hm⟩ := h1; exact DataW.trod_lt m _ _ _ hm
 obtain ⟨y1, ok1, av1⟩ := open_any (τ := tySet) (by kernel_rfl) (hval 1 24 v1 rfl rfl) h1
 have lt2 : ∀ x ∈ p2, x.block < W.heap.size := by obtain ⟨m, hm⟩ := h2; exact DataW.trod_lt m _ _ _ hm
 obtain ⟨y2, ok2, av2⟩ := open_any (τ := tyPrs) (by kernel_rfl) (hval 2 25 v2 rfl rfl) h2
 clear hA0 hval0 hsz0
 refine (law_calls (P := Tryz.prog) (f := 3) (vals := [v0, v1, v2]) (by have h := c_laws_FnExactRunQueries y0 (setOf y1) (prsOf y2); rw [← set_av, ← prs_av] at h; exact h) (AVs.cons av0 (AVs.cons av1 (AVs.cons av2 AVs.nil)))).mono fun e W' ⟨he, bel⟩ => ?_
 subst he
 exact ⟨_, rfl, _, _, _, [], _, [], hW', trodAll_mk1 (shut_bool Tryz.underlying4 _), (trodAll_cons_mk (Below.trod laidOut (by kernel_rfl) (of_decide_eq_true (by kernel_rfl)) h0 bel lt0) (trodAll_cons_mk (Below.trod laidOut (by kernel_rfl) (of_decide_eq_true (by kernel_rfl)) h1 bel lt1) (trodAll_cons_mk (Below.trod laidOut (by kernel_rfl) (of_decide_eq_true (by kernel_rfl)) h2 bel lt2) trodAll_mk0))), rfl, bel.frame _, fun h => by cases h⟩

theorem j1 : laidOutB Tryz.checked.prog = true := by kernel_rfl
theorem j2 : mapsRowed Tryz.checked.prog = true := by kernel_rfl
theorem j9 : (Rows.fnExactRunQueriesRow.inPlace == Tryz.checked.prog.inPlace 3) = true := by kernel_rfl
theorem j10 : (Rows.fnExactRunQueriesRow.unfollowed == Tryz.checked.prog.unfollowed 3) = true := by kernel_rfl
theorem j11 : (Rows.fnExactRunQueriesRow.recurses == Tryz.checked.prog.recurses 3) = true := by kernel_rfl
theorem j12 : (Rows.fnExactRunQueriesRow.named == Tryz.checked.prog.varsNamed 3) = true := by kernel_rfl
theorem j25 : Tryz.checked.prog.mayEnter = true := by kernel_rfl
theorem j26 : (Rows.fnExactRunQueriesRow.lifted == Tryz.checked.prog.liftsFinal) = true := by kernel_rfl
theorem j27 : (Tryz.checked.prog.make == some Rows.fnExactRunQueriesRow.make) = true := by kernel_rfl
theorem and2 {a b : Bool} (h : a = true) (k : b = true) : (a && b) = true := by rw [h, k]; rfl
theorem joined : joinedFacts Tryz.checked.prog 3 Tryz.f3 Rows.fnExactRunQueriesSpec Rows.fnExactRunQueriesRow = true := (and2 (and2 (and2 (and2 (and2 (and2 (and2 (and2 (and2 (and2 (and2 (and2 (and2 (and2 (and2 (and2 (and2 (and2 (and2 (and2 (and2 (and2 (and2 (and2 (and2 (and2 (and2 (and2 (and2 (and2 (and2 (by kernel_rfl) j1) j2) (by kernel_rfl)) (by kernel_rfl)) (by kernel_rfl)) (by kernel_rfl)) (by kernel_rfl)) (by kernel_rfl)) j9) j10) j11) j12) (by kernel_rfl)) (by kernel_rfl)) (by kernel_rfl)) (by kernel_rfl)) (by kernel_rfl)) (by kernel_rfl)) (by kernel_rfl)) (by kernel_rfl)) (by kernel_rfl)) (by kernel_rfl)) (by kernel_rfl)) (by kernel_rfl)) j25) j26) j27) (by kernel_rfl)) (by kernel_rfl)) (by kernel_rfl)) (by kernel_rfl))
theorem inst : Tryz.f3.isInstance Tryz.checked.prog Rows.fnExactRunQueriesRow.origin Rows.fnExactRunQueriesRow.targs := of_decide_eq_true (by kernel_rfl)
theorem over : Rows.fnExactRunQueriesRow.holds Tryz.pinned (OpenSpec.ofChange Rows.fnExactRunQueriesSpec) :=
 OpenClaim.holds_of_wide 3 Tryz.f3 rfl rfl rfl rfl rfl rfl rfl ⟨rfl, rfl, rfl, rfl, rfl⟩ rfl rfl rfl rfl rfl (by kernel_rfl) Tryz.func3 joined
  inst (by unfold Func.isWrapper; first | (rw [if_pos (by decide +kernel)]; kernel_rfl) | (rw [if_neg (by decide +kernel)]; exact ⟨rfl, rfl⟩))
  (fun os started H enc _ => lifted os started H enc)
theorem proved : Rows.FnExactRunQueriesSaid := over
#print axioms proved
end Go.Proofs.YthnadkagchbhbaaGreat.fnExactRunQueries
namespace Go.Proofs.YthnadkagchbhbaaGreat
theorem fnExactRunQueries_holds : Rows.FnExactRunQueriesSaid := fnExactRunQueries.proved
end Go.Proofs.YthnadkagchbhbaaGreat
