/- The program's JoinAggregates returns what the reference's returns, for all arguments: no condition. -/
import Derived.Test.YtpcnpmeimemeaaaRows
import Derived.Test.YtpcnpmeimemeaaaPFnExactJoinAggregatesx2
import Derived.WalkKit
import Derived.ProofKit
import Derived.OpenShut
import Derived.ShutString
import Derived.ChangeOld
import Derived.Below
import Derived.Carry
import Derived.SizedLaws
import Derived.Lib.SmallJoins
namespace Go.Proofs.Ytpcnpmeimemeaaa.fnExactJoinAggregates
open Go.ChangeShapes Go.WideShapes Go.ChangeAt Go.RowKit Go.Joins
set_option linter.unusedVariables false

theorem own : ownKnob Try.prog.godebug = none := by kernel_rfl
theorem laidOut : laidOutB Try.prog = true := by kernel_rfl

theorem pure (a b c d e f g h : Int) : PFnExactJoinAggregates.laws_FnExactJoinAggregates.f a b c d e f g h = some true := by
  simp only [PFnExactJoinAggregates.laws_FnExactJoinAggregates.f, PFnExactJoinAggregates.laws_toAggregate.f, PFnExactJoinAggregates.spec_JoinAggregates.f, PFnExactJoinAggregates.impl_JoinAggregates.f, PFnExactJoinAggregates.laws_eqAggregate.f, Option.bind_some]
  by_cases h1 : a ≤ 0
  · simp [h1]
  · by_cases h2 : e ≤ 0 <;> simp [h1, h2]

set_option maxRecDepth 100000 in
theorem lifted (os : Os) (started : os.Started) (H : Type) (enc : TypeId × Value → H) :
    ReturnsInHanded {} Try.checked os 4 .any (Rows.fnExactJoinAggregatesSpec.pre6 enc Try.prog Try.f4 Rows.fnExactJoinAggregatesRow.domain false) (Rows.fnExactJoinAggregatesSpec.post enc Try.prog Try.f4 false true false false) := by
  refine returnsInHanded_of_change_sized (C := Try.checked) own started (by kernel_rfl) Try.func4
    (ChangeSpec.witness6 (enc := enc) (C := Try.checked) false ⟨#[], #[.agg #[.int .i64 0, .int .i64 0, .int .i64 0, .int .i64 0], .agg #[.int .i64 0, .int .i64 0, .int .i64 0, .int .i64 0]], []⟩ 8 (by kernel_rfl) (by kernel_rfl) (by kernel_rfl) (by kernel_rfl)) ?_
  intro W base args ds gs before hval0 hW hcnd hsz0 _
  have hval : ∀ (j : Nat) t v, Try.f4.params[j]? = some t → args[j]? = some v → Value.okWide Try.prog W .any base t v := hval0
  have hW' := hW
  obtain ⟨p, q, hA0, hV, rfl, hfz, hnd⟩ := hW
  have hA : DataW.TrodAll enc Try.prog W 0 (fun _ => true) true Try.f4.params.toList args.toList ds p := hA0
  rw [Try.params4] at hA hval
  obtain ⟨v0, vs0, d0, ds0, p0, q0, hargs, rfl, rfl, h0, r0⟩ := trodAll_cons hA
  obtain ⟨v1, vs1, d1, ds1, p1, q1, rfl, rfl, rfl, h1, r1⟩ := trodAll_cons r0
  obtain ⟨rfl, rfl, rfl⟩ := trodAll_nil r1
  obtain rfl : args = #[v0, v1] := by cases args; simp_all
  obtain ⟨rfl, rfl⟩ := trodVars_none hV
  have k0 := h0
  have k1 := h1
  have lt0 : ∀ x ∈ p0, x.block < W.heap.size := by obtain ⟨m, hm⟩ := k0; exact DataW.trod_lt m _ _ _ hm
  have lt1 : ∀ x ∈ p1, x.block < W.heap.size := by obtain ⟨m, hm⟩ := k1; exact DataW.trod_lt m _ _ _ hm
  obtain ⟨c00, c01, c02, c03, y00, y01, y02, y03, m0, rfl, -, -, hy00, hy01, hy02, hy03⟩ := open_agg4 Try.underlying29 (by kernel_rfl) (by kernel_rfl) (hval 0 29 v0 rfl rfl) h0
  obtain ⟨a00, e00, -, -⟩ := DataW.trod_int Try.underlying3 hy00
  obtain ⟨a01, e01, -, -⟩ := DataW.trod_int Try.underlying3 hy01
  obtain ⟨a02, e02, -, -⟩ := DataW.trod_int Try.underlying3 hy02
  obtain ⟨a03, e03, -, -⟩ := DataW.trod_int Try.underlying3 hy03
  simp at e00 e01 e02 e03
  subst e00 e01 e02 e03
  obtain ⟨c10, c11, c12, c13, y10, y11, y12, y13, m1, rfl, -, -, hy10, hy11, hy12, hy13⟩ := open_agg4 Try.underlying29 (by kernel_rfl) (by kernel_rfl) (hval 1 29 v1 rfl rfl) h1
  obtain ⟨a10, e10, -, -⟩ := DataW.trod_int Try.underlying3 hy10
  obtain ⟨a11, e11, -, -⟩ := DataW.trod_int Try.underlying3 hy11
  obtain ⟨a12, e12, -, -⟩ := DataW.trod_int Try.underlying3 hy12
  obtain ⟨a13, e13, -, -⟩ := DataW.trod_int Try.underlying3 hy13
  simp at e10 e11 e12 e13
  subst e10 e11 e12 e13
  clear hA0 hval0 hsz0
  refine (PFnExactJoinAggregates.laws_FnExactJoinAggregates.calls a00 a01 a02 a03 a10 a11 a12 a13 true W (pure _ _ _ _ _ _ _ _)).mono fun e W' ⟨he, bel⟩ => ?_
  subst he
  exact ⟨_, rfl, _, _, _, [], _, [], hW', trodAll_mk1 (shut_bool Try.underlying4 _), trodAll_cons_mk (Below.trod laidOut (by kernel_rfl) (of_decide_eq_true (by kernel_rfl)) k0 bel lt0) (trodAll_cons_mk (Below.trod laidOut (by kernel_rfl) (of_decide_eq_true (by kernel_rfl)) k1 bel lt1) trodAll_mk0), rfl, bel.frame _, fun h => by cases h⟩

theorem over : Rows.fnExactJoinAggregatesRow.holds Try.pinned (OpenSpec.ofChange Rows.fnExactJoinAggregatesSpec) :=
  OpenClaim.holds_of_wide 4 Try.f4 rfl rfl rfl rfl rfl rfl rfl ⟨rfl, rfl, rfl, rfl, rfl⟩ rfl rfl rfl rfl rfl (by kernel_rfl) Try.func4 (by kernel_rfl)
    (of_decide_eq_true (by kernel_rfl)) (by unfold Func.isWrapper; first | (rw [if_pos (by decide +kernel)]; kernel_rfl) | (rw [if_neg (by decide +kernel)]; exact ⟨rfl, rfl⟩))
    (fun os started H enc _ => lifted os started H enc)
theorem proved : Rows.FnExactJoinAggregatesSaid := over
#print axioms proved
end Go.Proofs.Ytpcnpmeimemeaaa.fnExactJoinAggregates
namespace Go.Proofs.Ytpcnpmeimemeaaa
theorem fnExactJoinAggregates_holds : Rows.FnExactJoinAggregatesSaid := fnExactJoinAggregates.proved
end Go.Proofs.Ytpcnpmeimemeaaa
