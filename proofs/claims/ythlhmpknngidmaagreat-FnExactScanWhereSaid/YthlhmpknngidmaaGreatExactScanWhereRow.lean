/- The program's law 'FnExactScanWhere' holds, for all arguments: no condition. -/
import Derived.Test.YthlhmpknngidmaaGreatRows
import Derived.Test.YthlhmpknngidmaaGreatA217
import Derived.Test.YthlhmpknngidmaaGreatF2
import Derived.Test.YthlhmpknngidmaaGreatF4
import Derived.WalkKit
import Derived.ProofKit
import Derived.OpenShut
import Derived.ShutString
import Derived.ChangeOld
import Derived.Below
import Derived.Carry
import Derived.SizedLaws
import Derived.Lib.SmallJoins
namespace Go.Proofs.YthlhmpknngidmaaGreat.fnExactScanWhere
open Go.ChangeShapes Go.WideShapes Go.ChangeAt Go.RowKit Go.Joins Go.Proofs.YthlhmpknngidmaaGreat.E
set_option linter.unusedVariables false

def tyCrk:Ty:=.st (.cons (.sl .int) (.cons (.sl .int) (.cons (.sl (.st (.cons .int (.cons .int .nil)))) .nil)))
def crkOf (y:tyCrk.den):Crk:=⟨y.1,y.2.1,List.map (fun p:Int × Int × Unit=>(p.1,p.2.1)) y.2.2.1⟩
theorem pairs_av (l : List (Int × Int × Unit)) : pairs (List.map (fun p : Int × Int × Unit => (p.1, p.2.1)) l) = List.map (Ty.enc (.st (.cons .int (.cons .int .nil)))) l := by
 simp only [pairs,List.map_map]
 rfl
def tyMp:Ty:=.st (.cons tyCrk (.cons (.sl .int) (.cons .int .nil)))
def mpOf (y:tyMp.den):Mp:=⟨crkOf y.1,y.2.1,y.2.2.1⟩
def tyPr:Ty:=.st (.cons .int (.cons .int .nil))
def prOf (y:tyPr.den):Int × Int:=(y.1,y.2.1)
theorem pr_av (y:tyPr.den):tyPr.av y = .agg [.sc (.int .i64 (prOf y).1),.sc (.int .i64 (prOf y).2)]:=rfl
def tyII:Ty:=.sl (.sl .int)
def tyMst:Ty:=.st (.cons (.sl .int) (.cons tyII (.cons (.sl .int) (.cons (.sl tyMp) (.cons (.sl .bool) (.cons (.sl .int) (.cons .int (.cons .int .nil))))))))
def mstOf (y:tyMst.den):MSt:=⟨y.1,y.2.1,y.2.2.1,List.map mpOf y.2.2.2.1,y.2.2.2.2.1,y.2.2.2.2.2.1,y.2.2.2.2.2.2.1,y.2.2.2.2.2.2.2.1⟩
theorem mpT_av (y : tyMp.den) : mpT (mpOf y) = Ty.enc tyMp y :=
 cons_eq rfl (cons_eq rfl (cons_eq (congrArg T.sl (pairs_av y.1.2.2.1)) rfl))
theorem mps_av (l : List tyMp.den) : mps (List.map mpOf l) = List.map (Ty.enc tyMp) l := by
 rw [mps,List.map_map]
 exact List.map_congr_left fun y _=>mpT_av y
theorem mst_av (y : tyMst.den) : tyMst.av y = .agg (msC (mstOf y)) :=
 agg_eq (cons_eq rfl (cons_eq rfl (cons_eq rfl (cons_eq (congrArg AC.ro (mps_av y.2.2.2.1).symm) (cons_eq rfl (cons_eq rfl rfl))))))
def tyFls:Ty:=.sl (.st (.cons .int (.cons tyPr .nil)))
def flsOf (y:tyFls.den):List (Int × Int × Int):=List.map (fun p:Int × (Int × Int × Unit) × Unit=>(p.1,p.2.1.1,p.2.1.2.1)) y
theorem trips_av (l : List (Int × (Int × Int × Unit) × Unit)) : trips (List.map (fun p : Int × (Int × Int × Unit) × Unit => (p.1, p.2.1.1, p.2.1.2.1)) l) = List.map (Ty.enc (.st (.cons .int (.cons tyPr .nil)))) l := by
 simp only [trips,List.map_map]
 rfl
theorem fls_av (y:tyFls.den):tyFls.av y = .c (.ro (trips (flsOf y))):=congrArg (fun z=>AV.c (AC.ro z)) (trips_av y).symm

theorem own:ownKnob Tryz.prog.godebug=none:=by kernel_rfl
theorem laidOut:laidOutB Tryz.prog=true:=by kernel_rfl

set_option maxRecDepth 100000 in
theorem lifted (os : Os) (started : os.Started) (H : Type) (enc : TypeId × Value → H) :
  ReturnsInHanded {} Tryz.checked os 4 .any (Rows.fnExactScanWhereSpec.pre6 enc Tryz.prog Tryz.f4 Rows.fnExactScanWhereRow.domain false) (Rows.fnExactScanWhereSpec.post enc Tryz.prog Tryz.f4 false true false false):=by
 refine returnsInHanded_of_change_sized (C := Tryz.checked) own started (by kernel_rfl) Tryz.func4
  (ChangeSpec.witness6 (enc:=enc) (C:=Tryz.checked) false ⟨#[],#[.agg #[.slice none 0 0,.slice none 0 0,.slice none 0 0,.slice none 0 0,.slice none 0 0,.slice none 0 0,.int .i64 0,.int .i64 0],.agg #[.int .i64 0,.int .i64 0],.slice none 0 0,.slice none 0 0],[]⟩ 8 (by kernel_rfl) (by kernel_rfl) (by kernel_rfl) (by kernel_rfl)) ?_
 intro W base args ds gs before hval0 hW hcnd hsz0 _
 have hval:∀ (j:Nat) t v,Tryz.f4.params[j]? = some t→args[j]? = some v→Value.okWide Tryz.prog W .any base t v:=hval0
 have hW':=hW
 obtain⟨p,q,hA0,hV,rfl,hfz,hnd⟩:=hW
 have hA:DataW.TrodAll enc Tryz.prog W 0 (fun _=>true) true Tryz.f4.params.toList args.toList ds p:=hA0
 rw [Tryz.params4] at hA hval
 obtain⟨v0,vs0,d0,ds0,p0,q0,hargs,rfl,rfl,h0,r0⟩:=trodAll_cons hA
 obtain⟨v1,vs1,d1,ds1,p1,q1,rfl,rfl,rfl,h1,r1⟩:=trodAll_cons r0
 obtain⟨v2,vs2,d2,ds2,p2,q2,rfl,rfl,rfl,h2,r2⟩:=trodAll_cons r1
 obtain⟨v3,vs3,d3,ds3,p3,q3,rfl,rfl,rfl,h3,r3⟩:=trodAll_cons r2
 obtain⟨rfl,rfl,rfl⟩:=trodAll_nil r3
 obtain rfl:args = #[v0,v1,v2,v3]:=by cases args;simp_all
 obtain⟨rfl,rfl⟩:=trodVars_none hV
 have lt0:∀ x ∈ p0,x.block<W.heap.size:=by obtain⟨m,hm⟩:=h0;exact DataW.trod_lt m _ _ _ hm
 obtain⟨y0,ok0,av0⟩:=open_any (τ:=tyMst) (by kernel_rfl) (hval 0 27 v0 rfl rfl) h0
 have lt1:∀ x ∈ p1,x.block<W.heap.size:=by obtain⟨m,hm⟩:=h1;exact DataW.trod_lt m _ _ _ hm
 obtain⟨y1,ok1,av1⟩:=open_any (τ:=tyPr) (by kernel_rfl) (hval 1 39 v1 rfl rfl) h1
 have lt2:∀ x ∈ p2,x.block<W.heap.size:=by obtain⟨m,hm⟩:=h2;exact DataW.trod_lt m _ _ _ hm
 obtain⟨y2,ok2,av2⟩:=open_any (τ:=tyFls) (by kernel_rfl) (hval 2 40 v2 rfl rfl) h2
 have lt3:∀ x ∈ p3,x.block<W.heap.size:=by obtain⟨m,hm⟩:=h3;exact DataW.trod_lt m _ _ _ hm
 obtain⟨y3,ok3,av3⟩:=open_any (τ:=(.sl .int)) (by kernel_rfl) (hval 3 22 v3 rfl rfl) h3
 clear hA0 hval0 hsz0
 refine (law_calls (P:=Tryz.prog) (f:=4) (vals:=[v0,v1,v2,v3]) (by have h:=c_laws_FnExactScanWhere (mstOf y0) (prOf y1) (flsOf y2) y3;rw [← mst_av,← pr_av,← fls_av] at h;exact h) (AVs.cons av0 (AVs.cons av1 (AVs.cons av2 (AVs.cons av3 AVs.nil))))).mono fun e W' ⟨he,bel⟩=>?_
 subst he
 exact⟨_,rfl,_,_,_,[],_,[],hW',trodAll_mk1 (shut_bool Tryz.underlying4 _),(trodAll_cons_mk (Below.trod laidOut (by kernel_rfl) (of_decide_eq_true (by kernel_rfl)) h0 bel lt0) (trodAll_cons_mk (Below.trod laidOut (by kernel_rfl) (of_decide_eq_true (by kernel_rfl)) h1 bel lt1) (trodAll_cons_mk (Below.trod laidOut (by kernel_rfl) (of_decide_eq_true (by kernel_rfl)) h2 bel lt2) (trodAll_cons_mk (Below.trod laidOut (by kernel_rfl) (of_decide_eq_true (by kernel_rfl)) h3 bel lt3) trodAll_mk0)))),rfl,bel.frame _,fun h=>by cases h⟩

theorem j1:laidOutB Tryz.checked.prog=true:=by kernel_rfl
theorem j2:mapsRowed Tryz.checked.prog=true:=by kernel_rfl
theorem j9:(Rows.fnExactScanWhereRow.inPlace == Tryz.checked.prog.inPlace 4)=true:=by kernel_rfl
theorem j10:(Rows.fnExactScanWhereRow.unfollowed == Tryz.checked.prog.unfollowed 4)=true:=by kernel_rfl
theorem j11:(Rows.fnExactScanWhereRow.recurses == Tryz.checked.prog.recurses 4)=true:=by kernel_rfl
theorem j12:(Rows.fnExactScanWhereRow.named == Tryz.checked.prog.varsNamed 4)=true:=by kernel_rfl
theorem j25:Tryz.checked.prog.mayEnter=true:=by kernel_rfl
theorem j26:(Rows.fnExactScanWhereRow.lifted == Tryz.checked.prog.liftsFinal)=true:=by kernel_rfl
theorem j27:(Tryz.checked.prog.make == some Rows.fnExactScanWhereRow.make)=true:=by kernel_rfl
theorem and2 {a b:Bool} (h:a=true) (k:b=true):(a && b)=true:=by rw [h,k];rfl
theorem joined:joinedFacts Tryz.checked.prog 4 Tryz.f4 Rows.fnExactScanWhereSpec Rows.fnExactScanWhereRow=true:=(and2 (and2 (and2 (and2 (and2 (and2 (and2 (and2 (and2 (and2 (and2 (and2 (and2 (and2 (and2 (and2 (and2 (and2 (and2 (and2 (and2 (and2 (and2 (and2 (and2 (and2 (and2 (and2 (and2 (and2 (and2 (by kernel_rfl) j1) j2) (by kernel_rfl)) (by kernel_rfl)) (by kernel_rfl)) (by kernel_rfl)) (by kernel_rfl)) (by kernel_rfl)) j9) j10) j11) j12) (by kernel_rfl)) (by kernel_rfl)) (by kernel_rfl)) (by kernel_rfl)) (by kernel_rfl)) (by kernel_rfl)) (by kernel_rfl)) (by kernel_rfl)) (by kernel_rfl)) (by kernel_rfl)) (by kernel_rfl)) (by kernel_rfl)) j25) j26) j27) (by kernel_rfl)) (by kernel_rfl)) (by kernel_rfl)) (by kernel_rfl))
theorem inst:Tryz.f4.isInstance Tryz.checked.prog Rows.fnExactScanWhereRow.origin Rows.fnExactScanWhereRow.targs:=of_decide_eq_true (by kernel_rfl)
theorem over : Rows.fnExactScanWhereRow.holds Tryz.pinned (OpenSpec.ofChange Rows.fnExactScanWhereSpec) :=
 OpenClaim.holds_of_wide 4 Tryz.f4 rfl rfl rfl rfl rfl rfl rfl ⟨rfl, rfl, rfl, rfl, rfl⟩ rfl rfl rfl rfl rfl (by kernel_rfl) Tryz.func4 joined
  inst (by unfold Func.isWrapper;first|(rw [if_pos (by decide +kernel)];kernel_rfl)|(rw [if_neg (by decide +kernel)];exact⟨rfl,rfl⟩))
  (fun os started H enc _=>lifted os started H enc)
theorem proved:Rows.FnExactScanWhereSaid:=over
#print axioms proved
end Go.Proofs.YthlhmpknngidmaaGreat.fnExactScanWhere
namespace Go.Proofs.YthlhmpknngidmaaGreat
theorem fnExactScanWhere_holds:Rows.FnExactScanWhereSaid:=fnExactScanWhere.proved
end Go.Proofs.YthlhmpknngidmaaGreat
