/- The program's law 'FnExactEqualMapSets' holds, for all arguments: no condition. -/
import Derived.Test.YthlhmpknngidmaaRows
import Derived.Test.YthlhmpknngidmaaA206
import Derived.Test.YthlhmpknngidmaaF2
import Derived.Test.YthlhmpknngidmaaF4
import Derived.WalkKit
import Derived.ProofKit
import Derived.OpenShut
import Derived.ShutString
import Derived.ChangeOld
import Derived.Below
import Derived.Carry
import Derived.SizedLaws
import Derived.Lib.SmallJoins
namespace Go.Proofs.Ythlhmpknngidmaa.fnExactEqualMapSets
open Go.ChangeShapes Go.WideShapes Go.ChangeAt Go.RowKit Go.Joins Go.Proofs.Ythlhmpknngidmaa.E
set_option linter.unusedVariables false

def tyCrk : Ty := .st (.cons (.sl .int) (.cons (.sl .int) (.cons (.sl (.st (.cons .int (.cons .int .nil)))) .nil)))
def crkOf (y : tyCrk.den) : Crk := ⟨y.1, y.2.1, List.map (fun p : Int × Int × Unit => (p.1, p.2.1)) y.2.2.1⟩
theorem pairs_av (l : List (Int × Int × Unit)) : pairs (List.map (fun p : Int × Int × Unit => (p.1, p.2.1)) l) = List.map (Ty.enc (.st (.cons .int (.cons .int .nil)))) l := by
  simp only [pairs, List.map_map]
  rfl
def tyMp : Ty := .st (.cons tyCrk (.cons (.sl .int) (.cons .int .nil)))
def mpOf (y : tyMp.den) : Mp := ⟨crkOf y.1, y.2.1, y.2.2.1⟩
def tyII : Ty := .sl (.sl .int)
def tyMst : Ty := .st (.cons (.sl .int) (.cons tyII (.cons (.sl .int) (.cons (.sl tyMp) (.cons (.sl .bool) (.cons (.sl .int) (.cons .int (.cons .int .nil))))))))
def mstOf (y : tyMst.den) : MSt := ⟨y.1, y.2.1, y.2.2.1, List.map mpOf y.2.2.2.1, y.2.2.2.2.1, y.2.2.2.2.2.1, y.2.2.2.2.2.2.1, y.2.2.2.2.2.2.2.1⟩
theorem mpT_av (y : tyMp.den) : mpT (mpOf y) = Ty.enc tyMp y :=
  cons_eq rfl (cons_eq rfl (cons_eq (congrArg T.sl (pairs_av y.1.2.2.1)) rfl))
theorem mps_av (l : List tyMp.den) : mps (List.map mpOf l) = List.map (Ty.enc tyMp) l := by
  rw [mps, List.map_map]
  exact List.map_congr_left fun y _ => mpT_av y
theorem mst_av (y : tyMst.den) : tyMst.av y = .agg (msC (mstOf y)) :=
  agg_eq (cons_eq rfl (cons_eq rfl (cons_eq rfl (cons_eq (congrArg AC.ro (mps_av y.2.2.2.1).symm) (cons_eq rfl (cons_eq rfl rfl))))))

theorem own : ownKnob Try.prog.godebug = none := by kernel_rfl
theorem laidOut : laidOutB Try.prog = true := by kernel_rfl

set_option maxRecDepth 100000 in
theorem lifted (os : Os) (started : os.Started) (H : Type) (enc : TypeId × Value → H) :
    ReturnsInHanded {} Try.checked os 6 .any (Rows.fnExactEqualMapSetsSpec.pre6 enc Try.prog Try.f6 Rows.fnExactEqualMapSetsRow.domain false) (Rows.fnExactEqualMapSetsSpec.post enc Try.prog Try.f6 false true false false) := by
  refine returnsInHanded_of_change_sized (C := Try.checked) own started (by kernel_rfl) Try.func6
    (ChangeSpec.witness6 (enc := enc) (C := Try.checked) false ⟨#[], #[.agg #[.slice none 0 0, .slice none 0 0, .slice none 0 0, .slice none 0 0, .slice none 0 0, .slice none 0 0, .int .i64 0, .int .i64 0], .agg #[.slice none 0 0, .slice none 0 0, .slice none 0 0, .slice none 0 0, .slice none 0 0, .slice none 0 0, .int .i64 0, .int .i64 0]], []⟩ 8 (by kernel_rfl) (by kernel_rfl) (by kernel_rfl) (by kernel_rfl)) ?_
  intro W base args ds gs before hval0 hW hcnd hsz0 _
  have hval : ∀ (j : Nat) t v, Try.f6.params[j]? = some t → args[j]? = some v → Value.okWide Try.prog W .any base t v := hval0
  have hW' := hW
  obtain ⟨p, q, hA0, hV, rfl, hfz, hnd⟩ := hW
  have hA : DataW.TrodAll enc Try.prog W 0 (fun _ => true) true Try.f6.params.toList args.toList ds p := hA0
  rw [Try.params6] at hA hval
  obtain ⟨v0, vs0, d0, ds0, p0, q0, hargs, rfl, rfl, h0, r0⟩ := trodAll_cons hA
  obtain ⟨v1, vs1, d1, ds1, p1, q1, rfl, rfl, rfl, h1, r1⟩ := trodAll_cons r0
  obtain ⟨rfl, rfl, rfl⟩ := trodAll_nil r1
  obtain rfl : args = #[v0, v1] := by cases args; simp_all
  obtain ⟨rfl, rfl⟩ := trodVars_none hV
  have lt0 : ∀ x ∈ p0, x.block < W.heap.size := by obtain ⟨m, hm⟩ := h0; exact DataW.trod_lt m _ _ _ hm
  obtain ⟨y0, ok0, av0⟩ := open_any (τ := tyMst) (by kernel_rfl) (hval 0 31 v0 rfl rfl) h0
  have lt1 : ∀ x ∈ p1, x.block < W.heap.size := by obtain ⟨m, hm⟩ := h1; exact DataW.trod_lt m _ _ _ hm
  obtain ⟨y1, ok1, av1⟩ := open_any (τ := tyMst) (by kernel_rfl) (hval 1 31 v1 rfl rfl) h1
  clear hA0 hval0 hsz0
  refine (law_calls (P := Try.prog) (f := 6) (vals := [v0, v1]) (by have h := c_laws_FnExactEqualMapSets (mstOf y0) (mstOf y1); rw [← mst_av, ← mst_av] at h; exact h) (AVs.cons av0 (AVs.cons av1 AVs.nil))).mono fun e W' ⟨he, bel⟩ => ?_
  subst he
  exact ⟨_, rfl, _, _, _, [], _, [], hW', trodAll_mk1 (shut_bool Try.underlying4 _), (trodAll_cons_mk (Below.trod laidOut (by kernel_rfl) (of_decide_eq_true (by kernel_rfl)) h0 bel lt0) (trodAll_cons_mk (Below.trod laidOut (by kernel_rfl) (of_decide_eq_true (by kernel_rfl)) h1 bel lt1) trodAll_mk0)), rfl, bel.frame _, fun h => by cases h⟩

theorem j1 : laidOutB Try.checked.prog = true := by kernel_rfl
theorem j2 : mapsRowed Try.checked.prog = true := by kernel_rfl
theorem j9 : (Rows.fnExactEqualMapSetsRow.inPlace == Try.checked.prog.inPlace 6) = true := by kernel_rfl
theorem j10 : (Rows.fnExactEqualMapSetsRow.unfollowed == Try.checked.prog.unfollowed 6) = true := by kernel_rfl
theorem j11 : (Rows.fnExactEqualMapSetsRow.recurses == Try.checked.prog.recurses 6) = true := by kernel_rfl
theorem j12 : (Rows.fnExactEqualMapSetsRow.named == Try.checked.prog.varsNamed 6) = true := by kernel_rfl
theorem j25 : Try.checked.prog.mayEnter = true := by kernel_rfl
theorem j26 : (Rows.fnExactEqualMapSetsRow.lifted == Try.checked.prog.liftsFinal) = true := by kernel_rfl
theorem j27 : (Try.checked.prog.make == some Rows.fnExactEqualMapSetsRow.make) = true := by kernel_rfl
theorem and2 {a b : Bool} (h : a = true) (k : b = true) : (a && b) = true := by rw [h, k]; rfl
theorem joined : joinedFacts Try.checked.prog 6 Try.f6 Rows.fnExactEqualMapSetsSpec Rows.fnExactEqualMapSetsRow = true := (and2 (and2 (and2 (and2 (and2 (and2 (and2 (and2 (and2 (and2 (and2 (and2 (and2 (and2 (and2 (and2 (and2 (and2 (and2 (and2 (and2 (and2 (and2 (and2 (and2 (and2 (and2 (and2 (and2 (and2 (and2 (by kernel_rfl) j1) j2) (by kernel_rfl)) (by kernel_rfl)) (by kernel_rfl)) (by kernel_rfl)) (by kernel_rfl)) (by kernel_rfl)) j9) j10) j11) j12) (by kernel_rfl)) (by kernel_rfl)) (by kernel_rfl)) (by kernel_rfl)) (by kernel_rfl)) (by kernel_rfl)) (by kernel_rfl)) (by kernel_rfl)) (by kernel_rfl)) (by kernel_rfl)) (by kernel_rfl)) (by kernel_rfl)) j25) j26) j27) (by kernel_rfl)) (by kernel_rfl)) (by kernel_rfl)) (by kernel_rfl))
theorem inst : Try.f6.isInstance Try.checked.prog Rows.fnExactEqualMapSetsRow.origin Rows.fnExactEqualMapSetsRow.targs := of_decide_eq_true (by kernel_rfl)
theorem over : Rows.fnExactEqualMapSetsRow.holds Try.pinned (OpenSpec.ofChange Rows.fnExactEqualMapSetsSpec) :=
  OpenClaim.holds_of_wide 6 Try.f6 rfl rfl rfl rfl rfl rfl rfl ⟨rfl, rfl, rfl, rfl, rfl⟩ rfl rfl rfl rfl rfl (by kernel_rfl) Try.func6 joined
    inst (by unfold Func.isWrapper; first | (rw [if_pos (by decide +kernel)]; kernel_rfl) | (rw [if_neg (by decide +kernel)]; exact ⟨rfl, rfl⟩))
    (fun os started H enc _ => lifted os started H enc)
theorem proved : Rows.FnExactEqualMapSetsSaid := over
#print axioms proved
end Go.Proofs.Ythlhmpknngidmaa.fnExactEqualMapSets
namespace Go.Proofs.Ythlhmpknngidmaa
theorem fnExactEqualMapSets_holds : Rows.FnExactEqualMapSetsSaid := fnExactEqualMapSets.proved
end Go.Proofs.Ythlhmpknngidmaa
