/- The program's law 'FnSorts' holds, for all arguments: no condition. -/
import Derived.Test.YtlodlnbhjghjoaaGreatRows
import Derived.Test.YtlodlnbhjghjoaaGreatA169
import Derived.Test.YtlodlnbhjghjoaaGreatF2
import Derived.Test.YtlodlnbhjghjoaaGreatF4
import Derived.WalkKit
import Derived.ProofKit
import Derived.OpenShut
import Derived.ShutString
import Derived.ChangeOld
import Derived.Below
import Derived.Carry
import Derived.SizedLaws
import Derived.Lib.SmallJoins
namespace Go.Proofs.YtlodlnbhjghjoaaGreat.fnSorts
open Go.ChangeShapes Go.WideShapes Go.ChangeAt Go.RowKit Go.Joins Go.Proofs.YtlodlnbhjghjoaaGreat.E
set_option linter.unusedVariables false

theorem own:ownKnob Tryz.prog.godebug=none:=by kernel_rfl
theorem laidOut:laidOutB Tryz.prog=true:=by kernel_rfl

set_option maxRecDepth 100000 in
theorem lifted (os : Os) (started : os.Started) (H : Type) (enc : TypeId × Value → H) :
  ReturnsInHanded {} Tryz.checked os 11 .any (Rows.fnSortsSpec.pre6 enc Tryz.prog Tryz.f11 Rows.fnSortsRow.domain false) (Rows.fnSortsSpec.post enc Tryz.prog Tryz.f11 false true false false):=by
 refine returnsInHanded_of_change_sized (C := Tryz.checked) own started (by kernel_rfl) Tryz.func11
  (ChangeSpec.witness6 (enc:=enc) (C:=Tryz.checked) false ⟨#[],#[.slice none 0 0],[]⟩ 8 (by kernel_rfl) (by kernel_rfl) (by kernel_rfl) (by kernel_rfl)) ?_
 intro W base args ds gs before hval0 hW hcnd hsz0 _
 have hval:∀ (j:Nat) t v,Tryz.f11.params[j]? = some t→args[j]? = some v→Value.okWide Tryz.prog W .any base t v:=hval0
 have hW':=hW
 obtain⟨p,q,hA0,hV,rfl,hfz,hnd⟩:=hW
 have hA:DataW.TrodAll enc Tryz.prog W 0 (fun _=>true) true Tryz.f11.params.toList args.toList ds p:=hA0
 rw [Tryz.params11] at hA hval
 obtain⟨v0,vs0,d0,ds0,p0,q0,hargs,rfl,rfl,h0,r0⟩:=trodAll_cons hA
 obtain⟨rfl,rfl,rfl⟩:=trodAll_nil r0
 obtain rfl:args = #[v0]:=by cases args;simp_all
 obtain⟨rfl,rfl⟩:=trodVars_none hV
 have lt0:∀ x ∈ p0,x.block<W.heap.size:=by obtain⟨m,hm⟩:=h0;exact DataW.trod_lt m _ _ _ hm
 obtain⟨y0,ok0,av0⟩:=open_bytes (t:=59) (u:=5) (by kernel_rfl) (by kernel_rfl) (by kernel_rfl) (hval 0 59 v0 rfl rfl) h0
 clear hA0 hval0 hsz0
 refine (law_calls (P:=Tryz.prog) (f:=11) (vals:=[v0]) (c_laws_FnSorts y0 ok0) (AVs.cons av0 AVs.nil)).mono fun e W' ⟨he,bel⟩=>?_
 subst he
 exact⟨_,rfl,_,_,_,[],_,[],hW',trodAll_mk1 (shut_bool Tryz.underlying4 _),(trodAll_cons_mk (Below.trod laidOut (by kernel_rfl) (of_decide_eq_true (by kernel_rfl)) h0 bel lt0) trodAll_mk0),rfl,bel.frame _,fun h=>by cases h⟩

theorem j1:laidOutB Tryz.checked.prog=true:=by kernel_rfl
theorem j2:mapsRowed Tryz.checked.prog=true:=by kernel_rfl
theorem j9:(Rows.fnSortsRow.inPlace == Tryz.checked.prog.inPlace 11)=true:=by kernel_rfl
theorem j10:(Rows.fnSortsRow.unfollowed == Tryz.checked.prog.unfollowed 11)=true:=by kernel_rfl
theorem j11:(Rows.fnSortsRow.recurses == Tryz.checked.prog.recurses 11)=true:=by kernel_rfl
theorem j12:(Rows.fnSortsRow.named == Tryz.checked.prog.varsNamed 11)=true:=by kernel_rfl
theorem j25:Tryz.checked.prog.mayEnter=true:=by kernel_rfl
theorem j26:(Rows.fnSortsRow.lifted == Tryz.checked.prog.liftsFinal)=true:=by kernel_rfl
theorem j27:(Tryz.checked.prog.make == some Rows.fnSortsRow.make)=true:=by kernel_rfl
theorem and2 {a b:Bool} (h:a=true) (k:b=true):(a && b)=true:=by rw [h,k];rfl
theorem joined:joinedFacts Tryz.checked.prog 11 Tryz.f11 Rows.fnSortsSpec Rows.fnSortsRow=true:=(and2 (and2 (and2 (and2 (and2 (and2 (and2 (and2 (and2 (and2 (and2 (and2 (and2 (and2 (and2 (and2 (and2 (and2 (and2 (and2 (and2 (and2 (and2 (and2 (and2 (and2 (and2 (and2 (and2 (and2 (and2 (by kernel_rfl) j1) j2) (by kernel_rfl)) (by kernel_rfl)) (by kernel_rfl)) (by kernel_rfl)) (by kernel_rfl)) (by kernel_rfl)) j9) j10) j11) j12) (by kernel_rfl)) (by kernel_rfl)) (by kernel_rfl)) (by kernel_rfl)) (by kernel_rfl)) (by kernel_rfl)) (by kernel_rfl)) (by kernel_rfl)) (by kernel_rfl)) (by kernel_rfl)) (by kernel_rfl)) (by kernel_rfl)) j25) j26) j27) (by kernel_rfl)) (by kernel_rfl)) (by kernel_rfl)) (by kernel_rfl))
theorem inst:Tryz.f11.isInstance Tryz.checked.prog Rows.fnSortsRow.origin Rows.fnSortsRow.targs:=of_decide_eq_true (by kernel_rfl)
theorem over : Rows.fnSortsRow.holds Tryz.pinned (OpenSpec.ofChange Rows.fnSortsSpec) :=
 OpenClaim.holds_of_wide 11 Tryz.f11 rfl rfl rfl rfl rfl rfl rfl ⟨rfl, rfl, rfl, rfl, rfl⟩ rfl rfl rfl rfl rfl (by kernel_rfl) Tryz.func11 joined
  inst (by unfold Func.isWrapper;first|(rw [if_pos (by decide +kernel)];kernel_rfl)|(rw [if_neg (by decide +kernel)];exact⟨rfl,rfl⟩))
  (fun os started H enc _=>lifted os started H enc)
theorem proved:Rows.FnSortsSaid:=over
#print axioms proved
end Go.Proofs.YtlodlnbhjghjoaaGreat.fnSorts
namespace Go.Proofs.YtlodlnbhjghjoaaGreat
theorem fnSorts_holds:Rows.FnSortsSaid:=fnSorts.proved
end Go.Proofs.YtlodlnbhjghjoaaGreat
