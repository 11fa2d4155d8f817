/- The program's law 'FnTop' holds, for all arguments: no condition. -/
import Derived.Test.YtjbbjicochipeaaGreatRows
import Derived.Test.YtjbbjicochipeaaGreatA196
import Derived.Test.YtjbbjicochipeaaGreatF2
import Derived.Test.YtjbbjicochipeaaGreatF4
import Derived.WalkKit
import Derived.ProofKit
import Derived.OpenShut
import Derived.ShutString
import Derived.ChangeOld
import Derived.Below
import Derived.Carry
import Derived.SizedLaws
import Derived.Lib.SmallJoins
namespace Go.Proofs.YtjbbjicochipeaaGreat.fnTop
open Go.ChangeShapes Go.WideShapes Go.ChangeAt Go.RowKit Go.Joins Go.Proofs.YtjbbjicochipeaaGreat.E
set_option linter.unusedVariables false

theorem own:ownKnob Tryz.prog.godebug=none:=by kernel_rfl
theorem laidOut:laidOutB Tryz.prog=true:=by kernel_rfl

set_option maxRecDepth 100000 in
theorem lifted (os : Os) (started : os.Started) (H : Type) (enc : TypeId × Value → H) :
  ReturnsInHanded {} Tryz.checked os 4 .any (Rows.fnTopSpec.pre6 enc Tryz.prog Tryz.f4 Rows.fnTopRow.domain false) (Rows.fnTopSpec.post enc Tryz.prog Tryz.f4 false true false false):=by
 refine returnsInHanded_of_change_sized (C := Tryz.checked) own started (by kernel_rfl) Tryz.func4
  (ChangeSpec.witness6 (enc:=enc) (C:=Tryz.checked) false ⟨#[],#[.slice none 0 0],[]⟩ 8 (by kernel_rfl) (by kernel_rfl) (by kernel_rfl) (by kernel_rfl)) ?_
 intro W base args ds gs before hval0 hW hcnd hsz0 _
 have hval:∀ (j:Nat) t v,Tryz.f4.params[j]? = some t→args[j]? = some v→Value.okWide Tryz.prog W .any base t v:=hval0
 have hW':=hW
 obtain⟨p,q,hA0,hV,rfl,hfz,hnd⟩:=hW
 have hA:DataW.TrodAll enc Tryz.prog W 0 (fun _=>true) true Tryz.f4.params.toList args.toList ds p:=hA0
 rw [Tryz.params4] at hA hval
 obtain⟨v0,vs0,d0,ds0,p0,q0,hargs,rfl,rfl,h0,r0⟩:=trodAll_cons hA
 obtain⟨rfl,rfl,rfl⟩:=trodAll_nil r0
 obtain rfl:args = #[v0]:=by cases args;simp_all
 obtain⟨rfl,rfl⟩:=trodVars_none hV
 have lt0:∀ x ∈ p0,x.block<W.heap.size:=by obtain⟨m,hm⟩:=h0;exact DataW.trod_lt m _ _ _ hm
 obtain⟨y0,ok0,av0⟩:=open_bytes (t:=36) (u:=5) (by kernel_rfl) (by kernel_rfl) (by kernel_rfl) (hval 0 36 v0 rfl rfl) h0
 clear hA0 hval0 hsz0
 refine (law_calls (P:=Tryz.prog) (f:=4) (vals:=[v0]) (c_laws_FnTop y0 ok0) (AVs.cons av0 AVs.nil)).mono fun e W' ⟨he,bel⟩=>?_
 subst he
 exact⟨_,rfl,_,_,_,[],_,[],hW',trodAll_mk1 (shut_bool Tryz.underlying4 _),(trodAll_cons_mk (Below.trod laidOut (by kernel_rfl) (of_decide_eq_true (by kernel_rfl)) h0 bel lt0) trodAll_mk0),rfl,bel.frame _,fun h=>by cases h⟩

theorem j1:laidOutB Tryz.checked.prog=true:=by kernel_rfl
theorem j2:mapsRowed Tryz.checked.prog=true:=by kernel_rfl
theorem j9:(Rows.fnTopRow.inPlace == Tryz.checked.prog.inPlace 4)=true:=by kernel_rfl
theorem j10:(Rows.fnTopRow.unfollowed == Tryz.checked.prog.unfollowed 4)=true:=by kernel_rfl
theorem j11:(Rows.fnTopRow.recurses == Tryz.checked.prog.recurses 4)=true:=by kernel_rfl
theorem j12:(Rows.fnTopRow.named == Tryz.checked.prog.varsNamed 4)=true:=by kernel_rfl
theorem j25:Tryz.checked.prog.mayEnter=true:=by kernel_rfl
theorem j26:(Rows.fnTopRow.lifted == Tryz.checked.prog.liftsFinal)=true:=by kernel_rfl
theorem j27:(Tryz.checked.prog.make == some Rows.fnTopRow.make)=true:=by kernel_rfl
theorem and2 {a b:Bool} (h:a=true) (k:b=true):(a && b)=true:=by rw [h,k];rfl
theorem joined:joinedFacts Tryz.checked.prog 4 Tryz.f4 Rows.fnTopSpec Rows.fnTopRow=true:=(and2 (and2 (and2 (and2 (and2 (and2 (and2 (and2 (and2 (and2 (and2 (and2 (and2 (and2 (and2 (and2 (and2 (and2 (and2 (and2 (and2 (and2 (and2 (and2 (and2 (and2 (and2 (and2 (and2 (and2 (and2 (by kernel_rfl) j1) j2) (by kernel_rfl)) (by kernel_rfl)) (by kernel_rfl)) (by kernel_rfl)) (by kernel_rfl)) (by kernel_rfl)) j9) j10) j11) j12) (by kernel_rfl)) (by kernel_rfl)) (by kernel_rfl)) (by kernel_rfl)) (by kernel_rfl)) (by kernel_rfl)) (by kernel_rfl)) (by kernel_rfl)) (by kernel_rfl)) (by kernel_rfl)) (by kernel_rfl)) (by kernel_rfl)) j25) j26) j27) (by kernel_rfl)) (by kernel_rfl)) (by kernel_rfl)) (by kernel_rfl))
theorem inst:Tryz.f4.isInstance Tryz.checked.prog Rows.fnTopRow.origin Rows.fnTopRow.targs:=of_decide_eq_true (by kernel_rfl)
theorem over : Rows.fnTopRow.holds Tryz.pinned (OpenSpec.ofChange Rows.fnTopSpec) :=
 OpenClaim.holds_of_wide 4 Tryz.f4 rfl rfl rfl rfl rfl rfl rfl ⟨rfl, rfl, rfl, rfl, rfl⟩ rfl rfl rfl rfl rfl (by kernel_rfl) Tryz.func4 joined
  inst (by unfold Func.isWrapper;first|(rw [if_pos (by decide +kernel)];kernel_rfl)|(rw [if_neg (by decide +kernel)];exact⟨rfl,rfl⟩))
  (fun os started H enc _=>lifted os started H enc)
theorem proved:Rows.FnTopSaid:=over
#print axioms proved
end Go.Proofs.YtjbbjicochipeaaGreat.fnTop
namespace Go.Proofs.YtjbbjicochipeaaGreat
theorem fnTop_holds:Rows.FnTopSaid:=fnTop.proved
end Go.Proofs.YtjbbjicochipeaaGreat
