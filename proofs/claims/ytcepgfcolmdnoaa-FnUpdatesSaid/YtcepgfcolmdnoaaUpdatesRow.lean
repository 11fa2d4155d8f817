/- The program's law 'FnUpdates' holds, for all arguments: no condition. -/
import Derived.Test.YtcepgfcolmdnoaaRows
import Derived.Test.YtcepgfcolmdnoaaA155
import Derived.Test.YtcepgfcolmdnoaaF2
import Derived.Test.YtcepgfcolmdnoaaF4
import Derived.WalkKit
import Derived.ProofKit
import Derived.OpenShut
import Derived.ShutString
import Derived.ChangeOld
import Derived.Below
import Derived.Carry
import Derived.SizedLaws
import Derived.Lib.SmallJoins
namespace Go.Proofs.Ytcepgfcolmdnoaa.fnUpdates
open Go.ChangeShapes Go.WideShapes Go.ChangeAt Go.RowKit Go.Joins Go.Proofs.Ytcepgfcolmdnoaa.E
set_option linter.unusedVariables false

theorem own:ownKnob Try.prog.godebug=none:=by kernel_rfl
theorem laidOut:laidOutB Try.prog=true:=by kernel_rfl

set_option maxRecDepth 100000 in
theorem lifted (os : Os) (started : os.Started) (H : Type) (enc : TypeId × Value → H) :
  ReturnsInHanded {} Try.checked os 5 .any (Rows.fnUpdatesSpec.pre6 enc Try.prog Try.f5 Rows.fnUpdatesRow.domain false) (Rows.fnUpdatesSpec.post enc Try.prog Try.f5 false true false false):=by
 refine returnsInHanded_of_change_sized (C := Try.checked) own started (by kernel_rfl) Try.func5
  (ChangeSpec.witness6 (enc:=enc) (C:=Try.checked) false ⟨#[],#[.slice none 0 0],[]⟩ 8 (by kernel_rfl) (by kernel_rfl) (by kernel_rfl) (by kernel_rfl)) ?_
 intro W base args ds gs before hval0 hW hcnd hsz0 _
 have hval:∀ (j:Nat) t v,Try.f5.params[j]? = some t→args[j]? = some v→Value.okWide Try.prog W .any base t v:=hval0
 have hW':=hW
 obtain⟨p,q,hA0,hV,rfl,hfz,hnd⟩:=hW
 have hA:DataW.TrodAll enc Try.prog W 0 (fun _=>true) true Try.f5.params.toList args.toList ds p:=hA0
 rw [Try.params5] at hA hval
 obtain⟨v0,vs0,d0,ds0,p0,q0,hargs,rfl,rfl,h0,r0⟩:=trodAll_cons hA
 obtain⟨rfl,rfl,rfl⟩:=trodAll_nil r0
 obtain rfl:args = #[v0]:=by cases args;simp_all
 obtain⟨rfl,rfl⟩:=trodVars_none hV
 have lt0:∀ x ∈ p0,x.block<W.heap.size:=by obtain⟨m,hm⟩:=h0;exact DataW.trod_lt m _ _ _ hm
 obtain⟨y0,ok0,av0⟩:=open_bytes (t:=22) (u:=5) (by kernel_rfl) (by kernel_rfl) (by kernel_rfl) (hval 0 22 v0 rfl rfl) h0
 clear hA0 hval0 hsz0
 refine (law_calls (P:=Try.prog) (f:=5) (vals:=[v0]) (c_laws_FnUpdates y0 ok0) (AVs.cons av0 AVs.nil)).mono fun e W' ⟨he,bel⟩=>?_
 subst he
 exact⟨_,rfl,_,_,_,[],_,[],hW',trodAll_mk1 (shut_bool Try.underlying4 _),(trodAll_cons_mk (Below.trod laidOut (by kernel_rfl) (of_decide_eq_true (by kernel_rfl)) h0 bel lt0) trodAll_mk0),rfl,bel.frame _,fun h=>by cases h⟩

theorem j1:laidOutB Try.checked.prog=true:=by kernel_rfl
theorem j2:mapsRowed Try.checked.prog=true:=by kernel_rfl
theorem j9:(Rows.fnUpdatesRow.inPlace == Try.checked.prog.inPlace 5)=true:=by kernel_rfl
theorem j10:(Rows.fnUpdatesRow.unfollowed == Try.checked.prog.unfollowed 5)=true:=by kernel_rfl
theorem j11:(Rows.fnUpdatesRow.recurses == Try.checked.prog.recurses 5)=true:=by kernel_rfl
theorem j12:(Rows.fnUpdatesRow.named == Try.checked.prog.varsNamed 5)=true:=by kernel_rfl
theorem j25:Try.checked.prog.mayEnter=true:=by kernel_rfl
theorem j26:(Rows.fnUpdatesRow.lifted == Try.checked.prog.liftsFinal)=true:=by kernel_rfl
theorem j27:(Try.checked.prog.make == some Rows.fnUpdatesRow.make)=true:=by kernel_rfl
theorem and2 {a b:Bool} (h:a=true) (k:b=true):(a && b)=true:=by rw [h,k];rfl
theorem joined:joinedFacts Try.checked.prog 5 Try.f5 Rows.fnUpdatesSpec Rows.fnUpdatesRow=true:=(and2 (and2 (and2 (and2 (and2 (and2 (and2 (and2 (and2 (and2 (and2 (and2 (and2 (and2 (and2 (and2 (and2 (and2 (and2 (and2 (and2 (and2 (and2 (and2 (and2 (and2 (and2 (and2 (and2 (and2 (and2 (by kernel_rfl) j1) j2) (by kernel_rfl)) (by kernel_rfl)) (by kernel_rfl)) (by kernel_rfl)) (by kernel_rfl)) (by kernel_rfl)) j9) j10) j11) j12) (by kernel_rfl)) (by kernel_rfl)) (by kernel_rfl)) (by kernel_rfl)) (by kernel_rfl)) (by kernel_rfl)) (by kernel_rfl)) (by kernel_rfl)) (by kernel_rfl)) (by kernel_rfl)) (by kernel_rfl)) (by kernel_rfl)) j25) j26) j27) (by kernel_rfl)) (by kernel_rfl)) (by kernel_rfl)) (by kernel_rfl))
theorem inst:Try.f5.isInstance Try.checked.prog Rows.fnUpdatesRow.origin Rows.fnUpdatesRow.targs:=of_decide_eq_true (by kernel_rfl)
theorem over : Rows.fnUpdatesRow.holds Try.pinned (OpenSpec.ofChange Rows.fnUpdatesSpec) :=
 OpenClaim.holds_of_wide 5 Try.f5 rfl rfl rfl rfl rfl rfl rfl ⟨rfl, rfl, rfl, rfl, rfl⟩ rfl rfl rfl rfl rfl (by kernel_rfl) Try.func5 joined
  inst (by unfold Func.isWrapper;first|(rw [if_pos (by decide +kernel)];kernel_rfl)|(rw [if_neg (by decide +kernel)];exact⟨rfl,rfl⟩))
  (fun os started H enc _=>lifted os started H enc)
theorem proved:Rows.FnUpdatesSaid:=over
#print axioms proved
end Go.Proofs.Ytcepgfcolmdnoaa.fnUpdates
namespace Go.Proofs.Ytcepgfcolmdnoaa
theorem fnUpdates_holds:Rows.FnUpdatesSaid:=fnUpdates.proved
end Go.Proofs.Ytcepgfcolmdnoaa
