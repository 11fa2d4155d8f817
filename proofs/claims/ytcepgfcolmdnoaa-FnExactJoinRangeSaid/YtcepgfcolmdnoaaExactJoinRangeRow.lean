/- The program's law 'FnExactJoinRange' holds, for all arguments: no condition. -/
import Derived.Test.YtcepgfcolmdnoaaRows
import Derived.Test.YtcepgfcolmdnoaaA177
import Derived.Test.YtcepgfcolmdnoaaF2
import Derived.Test.YtcepgfcolmdnoaaF4
import Derived.Test.YtcepgfcolmdnoaaAT
import Derived.WalkKit
import Derived.ProofKit
import Derived.OpenShut
import Derived.ShutString
import Derived.ChangeOld
import Derived.Below
import Derived.Carry
import Derived.SizedLaws
import Derived.Lib.SmallJoins
namespace Go.Proofs.Ytcepgfcolmdnoaa.fnExactJoinRange
open Go.ChangeShapes Go.WideShapes Go.ChangeAt Go.RowKit Go.Joins Go.Proofs.Ytcepgfcolmdnoaa.E
set_option linter.unusedVariables false

def tyPr : Ty := .st (.cons .int (.cons .int .nil))
def prOf (y : tyPr.den) : Int × Int := (y.1, y.2.1)
theorem pr_av (y : tyPr.den) : tyPr.av y = .agg [.sc (.int .i64 (prOf y).1), .sc (.int .i64 (prOf y).2)] := rfl

theorem own:ownKnob Try.prog.godebug=none:=by kernel_rfl
theorem laidOut:laidOutB Try.prog=true:=by kernel_rfl

set_option maxRecDepth 100000 in
theorem lifted (os : Os) (started : os.Started) (H : Type) (enc : TypeId × Value → H) :
  ReturnsInHanded {} Try.checked os 9 .any (Rows.fnExactJoinRangeSpec.pre6 enc Try.prog Try.f9 Rows.fnExactJoinRangeRow.domain false) (Rows.fnExactJoinRangeSpec.post enc Try.prog Try.f9 false true false false):=by
 refine returnsInHanded_of_change_sized (C := Try.checked) own started (by kernel_rfl) Try.func9
  (ChangeSpec.witness6 (enc:=enc) (C:=Try.checked) false ⟨#[],#[.agg #[.slice none 0 0,.slice none 0 0,.slice none 0 0],.agg #[.slice none 0 0,.slice none 0 0,.slice none 0 0],.agg #[.int .i64 0,.int .i64 0]],[]⟩ 8 (by kernel_rfl) (by kernel_rfl) (by kernel_rfl) (by kernel_rfl)) ?_
 intro W base args ds gs before hval0 hW hcnd hsz0 _
 have hval:∀ (j:Nat) t v,Try.f9.params[j]? = some t→args[j]? = some v→Value.okWide Try.prog W .any base t v:=hval0
 have hW':=hW
 obtain⟨p,q,hA0,hV,rfl,hfz,hnd⟩:=hW
 have hA:DataW.TrodAll enc Try.prog W 0 (fun _=>true) true Try.f9.params.toList args.toList ds p:=hA0
 rw [Try.params9] at hA hval
 obtain⟨v0,vs0,d0,ds0,p0,q0,hargs,rfl,rfl,h0,r0⟩:=trodAll_cons hA
 obtain⟨v1,vs1,d1,ds1,p1,q1,rfl,rfl,rfl,h1,r1⟩:=trodAll_cons r0
 obtain⟨v2,vs2,d2,ds2,p2,q2,rfl,rfl,rfl,h2,r2⟩:=trodAll_cons r1
 obtain⟨rfl,rfl,rfl⟩:=trodAll_nil r2
 obtain rfl:args = #[v0,v1,v2]:=by cases args;simp_all
 obtain⟨rfl,rfl⟩:=trodVars_none hV
 have lt0:∀ x ∈ p0,x.block<W.heap.size:=by obtain⟨m,hm⟩:=h0;exact DataW.trod_lt m _ _ _ hm
 obtain⟨y0,ok0,av0⟩:=open_any (τ:=tyCrk) (by kernel_rfl) (hval 0 90 v0 rfl rfl) h0
 have lt1:∀ x ∈ p1,x.block<W.heap.size:=by obtain⟨m,hm⟩:=h1;exact DataW.trod_lt m _ _ _ hm
 obtain⟨y1,ok1,av1⟩:=open_any (τ:=tyCrk) (by kernel_rfl) (hval 1 90 v1 rfl rfl) h1
 have lt2:∀ x ∈ p2,x.block<W.heap.size:=by obtain⟨m,hm⟩:=h2;exact DataW.trod_lt m _ _ _ hm
 obtain⟨y2,ok2,av2⟩:=open_any (τ:=tyPr) (by kernel_rfl) (hval 2 101 v2 rfl rfl) h2
 clear hA0 hval0 hsz0
 refine (law_calls (P:=Try.prog) (f:=9) (vals:=[v0,v1,v2]) (by have h:=c_laws_FnExactJoinRange (crkOf y0) (crkOf y1) (prOf y2);rw [← crk_av,← crk_av,← pr_av] at h;exact h) (AVs.cons av0 (AVs.cons av1 (AVs.cons av2 AVs.nil)))).mono fun e W' ⟨he,bel⟩=>?_
 subst he
 exact⟨_,rfl,_,_,_,[],_,[],hW',trodAll_mk1 (shut_bool Try.underlying4 _),(trodAll_cons_mk (Below.trod laidOut (by kernel_rfl) (of_decide_eq_true (by kernel_rfl)) h0 bel lt0) (trodAll_cons_mk (Below.trod laidOut (by kernel_rfl) (of_decide_eq_true (by kernel_rfl)) h1 bel lt1) (trodAll_cons_mk (Below.trod laidOut (by kernel_rfl) (of_decide_eq_true (by kernel_rfl)) h2 bel lt2) trodAll_mk0))),rfl,bel.frame _,fun h=>by cases h⟩

theorem j1:laidOutB Try.checked.prog=true:=by kernel_rfl
theorem j2:mapsRowed Try.checked.prog=true:=by kernel_rfl
theorem j9:(Rows.fnExactJoinRangeRow.inPlace == Try.checked.prog.inPlace 9)=true:=by kernel_rfl
theorem j10:(Rows.fnExactJoinRangeRow.unfollowed == Try.checked.prog.unfollowed 9)=true:=by kernel_rfl
theorem j11:(Rows.fnExactJoinRangeRow.recurses == Try.checked.prog.recurses 9)=true:=by kernel_rfl
theorem j12:(Rows.fnExactJoinRangeRow.named == Try.checked.prog.varsNamed 9)=true:=by kernel_rfl
theorem j25:Try.checked.prog.mayEnter=true:=by kernel_rfl
theorem j26:(Rows.fnExactJoinRangeRow.lifted == Try.checked.prog.liftsFinal)=true:=by kernel_rfl
theorem j27:(Try.checked.prog.make == some Rows.fnExactJoinRangeRow.make)=true:=by kernel_rfl
theorem and2 {a b:Bool} (h:a=true) (k:b=true):(a && b)=true:=by rw [h,k];rfl
theorem joined:joinedFacts Try.checked.prog 9 Try.f9 Rows.fnExactJoinRangeSpec Rows.fnExactJoinRangeRow=true:=(and2 (and2 (and2 (and2 (and2 (and2 (and2 (and2 (and2 (and2 (and2 (and2 (and2 (and2 (and2 (and2 (and2 (and2 (and2 (and2 (and2 (and2 (and2 (and2 (and2 (and2 (and2 (and2 (and2 (and2 (and2 (by kernel_rfl) j1) j2) (by kernel_rfl)) (by kernel_rfl)) (by kernel_rfl)) (by kernel_rfl)) (by kernel_rfl)) (by kernel_rfl)) j9) j10) j11) j12) (by kernel_rfl)) (by kernel_rfl)) (by kernel_rfl)) (by kernel_rfl)) (by kernel_rfl)) (by kernel_rfl)) (by kernel_rfl)) (by kernel_rfl)) (by kernel_rfl)) (by kernel_rfl)) (by kernel_rfl)) (by kernel_rfl)) j25) j26) j27) (by kernel_rfl)) (by kernel_rfl)) (by kernel_rfl)) (by kernel_rfl))
theorem inst:Try.f9.isInstance Try.checked.prog Rows.fnExactJoinRangeRow.origin Rows.fnExactJoinRangeRow.targs:=of_decide_eq_true (by kernel_rfl)
theorem over : Rows.fnExactJoinRangeRow.holds Try.pinned (OpenSpec.ofChange Rows.fnExactJoinRangeSpec) :=
 OpenClaim.holds_of_wide 9 Try.f9 rfl rfl rfl rfl rfl rfl rfl ⟨rfl, rfl, rfl, rfl, rfl⟩ rfl rfl rfl rfl rfl (by kernel_rfl) Try.func9 joined
  inst (by unfold Func.isWrapper;first|(rw [if_pos (by decide +kernel)];kernel_rfl)|(rw [if_neg (by decide +kernel)];exact⟨rfl,rfl⟩))
  (fun os started H enc _=>lifted os started H enc)
theorem proved:Rows.FnExactJoinRangeSaid:=over
#print axioms proved
end Go.Proofs.Ytcepgfcolmdnoaa.fnExactJoinRange
namespace Go.Proofs.Ytcepgfcolmdnoaa
theorem fnExactJoinRange_holds:Rows.FnExactJoinRangeSaid:=fnExactJoinRange.proved
end Go.Proofs.Ytcepgfcolmdnoaa
