/- Words of the session's own, put together: part 4. -/
import Derived.Test.YtcepgfcolmdnoaaF3
namespace Go.Proofs.Ytcepgfcolmdnoaa.E
open Go Go.RowKit
set_option linter.unusedVariables false
set_option linter.unusedSimpArgs false

end Go.Proofs.Ytcepgfcolmdnoaa.E

namespace Go.Proofs.Ytcepgfcolmdnoaa.E
open Go Go.RowKit
set_option linter.unusedVariables false
set_option linter.unusedSimpArgs false

end Go.Proofs.Ytcepgfcolmdnoaa.E

namespace Go.Proofs.Ytcepgfcolmdnoaa.E
open Go Go.RowKit
set_option linter.unusedVariables false
set_option linter.unusedSimpArgs false

end Go.Proofs.Ytcepgfcolmdnoaa.E

namespace Go.Proofs.Ytcepgfcolmdnoaa.E
open Go Go.RowKit
set_option linter.unusedVariables false
set_option linter.unusedSimpArgs false

def UStep (P : Program) (N : Nat) (ops : Array Oper) (i : Nat) (fuel : Nat) (listed : Array Bool) (s : Slots) (R : List Res) (K : Slots → List Res → Prop) : Prop :=
 ∀ (G : Act → World → Prop) a w W, Now N s R a w W → Closed .any ops listed → i ∈ Region.ready .any ops listed → (∀ a' w', Reach N w W R K a' w' → G a' w') →
  wpOp P ops (fun ex a' w'=>ex = .normal∧G a' w') i (fun a' w'=>wpAnyJ P .any ops (fun ex a' w'=>ex = .normal∧G a' w') fuel (fun _=>True) (listed.setIfInBounds i true) a' w') a w

section
variable {P:Program} {N n:Nat} {ops:Array Oper} {s:Slots} {R:List Res} {K:Slots→List Res→Prop} {fuel:Nat} {listed listed':Array Bool}

def AllU (P : Program) (N : Nat) (ops : Array Oper) (fuel : Nat) (listed : Array Bool) (s : Slots) (R : List Res) (K : Slots → List Res → Prop) : List Nat → Prop
 | []=>True
 | i::l=>UStep P N ops i fuel listed s R K∧AllU P N ops fuel listed s R K l
theorem AllU.mem : ∀ {l : List Nat}, AllU P N ops fuel listed s R K l → ∀ i ∈ l, UStep P N ops i fuel listed s R K
 | [],_,i,hi=>by cases hi
 | j :: l, h, i, hi => by
  rcases List.mem_cons.1 hi with rfl|hi
  ·exact h.1
  exact AllU.mem h.2 i hi

end

end Go.Proofs.Ytcepgfcolmdnoaa.E

namespace Go.Proofs.Ytcepgfcolmdnoaa.E
open Go Go.RowKit
set_option linter.unusedVariables false
set_option linter.unusedSimpArgs false

/-- These variables hold what they held at the beginning. -/
def BoxK (ks:List Nat) (RB:List Res) (WB:Wit) (wB w:World):Prop:=∀ j ∈ ks,∀ cs,RB[j]? = some (.box cs) → ∀ c,WB.fs j c→w.heap[c]? = wB.heap[c]?

section
variable {P:Program} {N n:Nat} {ops:Array Oper} {s:Slots} {R RB:List Res} {K:Slots→List Res→Prop} {fuel:Nat} {listed listed':Array Bool} {ks:List Nat}

def EAnyD (P : Program) (N : Nat) (ops : Array Oper) (ks : List Nat) (RB : List Res) (fuel : Nat) (listed : Array Bool) (s : Slots) (R : List Res) (K : Slots → List Res → Prop) : Prop :=
 ∀ (G : Act → World → Prop) (wB : World) (WB : Wit) a w W, Sep wB WB RB → Trans wB WB RB w W R → Now N s R a w W → BoxK ks RB WB wB w → Closed .any ops listed → (∀ a' w', Reach N w W R K a' w' → G a' w') →
  wpAnyJ P .any ops (fun ex a' w'=>ex = .normal∧G a' w') fuel (fun w'=>BoxK ks RB WB wB w') listed a w

theorem E_drawD (ks : List Nat) {id : Nat} {Q : Exit → Slots → List Res → Prop} (hm : P.follows .mixedOrders = true) (h : EAnyD P N ops ks R ops.size (Array.replicate ops.size false) s R (Q .normal)) : ECode P N (.region id ops true) s R Q := by
 intro a w W hn
 obtain⟨h1,h2⟩:=hn.draw
 have:=h (fun a' w'=>Reach N w W R (Q .normal) a' w') { w with drawn:=w.drawn+1 } W a _ W h1.sep (.refl ..) h1 (fun _ _ _ _ _ _=>rfl) (Closed.start _ _ _) fun a' w' hr=>hr.after h2
 refine wp_mono (wp_region_any hm (wpAny_of_J _ _ _ _ _ this)) ?_
 rintro e a' w' ⟨rfl,hr⟩
 exact hr
theorem D_done (hr : Region.ready .any ops listed = []) (h : K s R) : EAnyD P N ops ks RB fuel listed s R K :=
 fun G wB WB a w W _ _ hn hb hc hq=>wpAnyJ_done hr ⟨rfl,hq a w ⟨s,R,W,h,hn,.refl ..⟩⟩ fuel

theorem d_pure' (i : Nat) {d : Nat} {o : Oper} {y : AV} (hi : ops[i]? = some o) (hw : want ops o s = some true) (hd : o.dst = some d) (hv : Pure P o s R y) (h : EAnyD P N ops ks RB fuel listed' ((d, y) :: s) R K)
  (hs:Region.noSelect ops=true:=by kernel_rfl) (hf:Region.free .any ops listed i=true:=by kernel_rfl) (hr:(Region.ready .any ops listed).contains i=true:=by kernel_rfl) (hN:d<N:=by decide) (hl:listed.setIfInBounds i true=listed':=by rfl):EAnyD P N ops ks RB (fuel+1) listed s R K:=by
 subst hl
 intro G wB WB a w W hsB ht hn hb hc hq
 obtain⟨v,hy,hrun⟩:=hv N a w W hn
 refine wpAnyJ_take0 hc hi hs hf hr (fun c a' w' hp=>by cases hp.1) (v:=v) (.inl ⟨want_real hn hw,fun w' _=>hrun w'⟩) hb ?_
 rw [hd]
 exact h G wB WB _ w W hsB ht (hn.put hN hy) hb (hc.step (by simpa using hr)) hq

theorem d_load' (i : Nat) {d ib off t : Nat} {o : Oper} {x : Operand} {y : AV} {cs cs' : List AC} (hi : ops[i]? = some o) (hw : want ops o s = some true) (hd : o.dst = some d) (ho : o.op = .load t x) (hx : ev s x = .c (.bp ib off)) (hy : ldv P R t (.c (.bp ib off)) = some y) (h : EAnyD P N ops ks RB fuel listed' ((d, y) :: s) R K)
  (h1:RB[ib]? = some (.box cs):=by rfl) (h2:R[ib]? = some (.box cs'):=by rfl) (hks:ks.contains ib=true:=by rfl) (hnm:isMv o=false:=by rfl) (hs:Region.noSelect ops=true:=by kernel_rfl) (hf:Region.free .any ops listed i=true:=by kernel_rfl) (hr:(Region.ready .any ops listed).contains i=true:=by kernel_rfl) (hN:d<N:=by decide) (hl:listed.setIfInBounds i true=listed':=by rfl):EAnyD P N ops ks RB (fuel+1) listed s R K:=by
 subst hl
 intro G wB WB a w W hsB ht hn hb hc hq
 have hvx:=hn.ev x
 rw [hx] at hvx
 obtain⟨agg,n,b,oo,vs,g1,g2,g3,g4,g5,g6⟩:=ldv_cells hn.sep hvx hy
 have hblk : W.fs ib b := by
  obtain⟨b',arr',e',k1',k2',-,-⟩:=hn.sep.res ib _ h2
  generalize a.eval x=vx at *
  cases hvx with
  | bp m1 m2 m3 _ =>
   obtain⟨b2,e1,e2⟩:=m3 _ h2
   rw [e1] at k1'
   obtain rfl:b2=b':=by cases k1';rfl
   rw [g2] at e2
   obtain⟨rfl,-⟩:b=b2∧True:=by cases e2;exact⟨rfl,trivial⟩
   exact (k2' b).2 rfl
 have hblkB:WB.fs ib b:=(box_block hsB ht hn.sep h1 h2 b).2 hblk
 refine wpAnyJ_take hc hi hnm hs hf hr (fun c a' w' hp=>by cases hp.1) (v:=asV agg vs) (.inl ⟨want_real hn hw,fun w' hb'=>?_⟩) hb ?_
 ·have hm : ib ∈ ks := by simpa using hks
  have e:w'.heap[b]? = w.heap[b]? := (hb' ib hm _ h1 b hblkB).trans (hb ib hm _ h1 b hblkB).symm
  have h5' : ∀ j u, vs[j]? = some u → w'.cell? ⟨b, oo + j, none⟩ = some u := fun j u hj => by
   have:=g5 j u hj
   simp only [World.cell?] at this ⊢
   rw [e];exact this
  simp only [execOp,ho,Instr.loadAt,g2,Instr.sureAddr,Sem.run_bind,Sem.run_pure,Result.andThen_ok,run_loadVar_ g1 vs g3 g4 h5']
 rw [hd]
 exact h G wB WB _ w W hsB ht (hn.put hN g6) hb (hc.step (by simpa using hr)) hq

/-- Number i comes up. -/
def DStep (P : Program) (N : Nat) (ops : Array Oper) (i : Nat) (ks : List Nat) (RB : List Res) (fuel : Nat) (listed : Array Bool) (s : Slots) (R : List Res) (K : Slots → List Res → Prop) : Prop :=
 ∀ (G : Act → World → Prop) (wB : World) (WB : Wit) a w W, Sep wB WB RB → Trans wB WB RB w W R → Now N s R a w W → BoxK ks RB WB wB w → Closed .any ops listed → i ∈ Region.ready .any ops listed → (∀ a' w', Reach N w W R K a' w' → G a' w') →
  wpOp P ops (fun ex a' w'=>ex = .normal∧G a' w') i (fun a' w'=>BoxK ks RB WB wB w'∧wpAnyJ P .any ops (fun ex a' w'=>ex = .normal∧G a' w') fuel (fun w'=>BoxK ks RB WB wB w') (listed.setIfInBounds i true) a' w') a w

theorem d_store' (i : Nat) {ib off t : Nat} {o : Oper} {x y : Operand} {ys : List AC} {R' : List Res} (hi : ops[i]? = some o) (hw : want ops o s = some true) (ho : o.op = .store t x y) (hd : o.dst = none)
  (hx:ev s x = .c (.bp ib off)) (hys:cellsOf (ev s y)=some ys) (hR:stv P R t (.c (.bp ib off)) ys=some R') (h:EAnyD P N ops ks RB fuel listed' s R' K) (hk:boxKeep RB R=true:=by rfl) (hib:ks.contains ib=false:=by rfl) (hl:listed.setIfInBounds i true=listed':=by rfl):DStep P N ops i ks RB fuel listed s R K:=by
 subst hl
 intro G wB WB a w W hsB ht hn hb hc hj hq
 have hvx:=hn.ev x
 rw [hx] at hvx
 obtain⟨w',g1,g2,g3,b,g4,g5⟩:=stv_box_run (P:=P) hn.sep hvx (hn.ev y) hys hR
 have hb' : BoxK ks RB WB wB w' := fun q hqk cs hq' c hc' => by
  obtain⟨cs',hq2⟩:=boxKeep_at hk q cs hq'
  have hw':=(box_block hsB ht hn.sep hq' hq2 c).1 hc'
  refine (g5 c fun e=>?_).trans (hb q hqk cs hq' c hc')
  subst e
  obtain rfl:=hn.sep.apart _ _ _ hw' g4
  have:ks.contains q=true:=by simpa using hqk
  rw [this] at hib;cases hib
 have hs3:Sep w' W R':=g3
 unfold wpOp
 simp only [hi,want_real hn hw,if_true]
 refine .inl ?_
 unfold Oper.wp
 have hrr : (execOp a.eval o).run P w = .ok .skip w' := by
  simp only [execOp,ho,Sem.run_bind,g1,Result.andThen_ok,Sem.run_pure]
 rw [hrr,Oper.upon_skip,hd]
 exact⟨hb',h G wB WB a w' W hsB (ht.trans g2) (hn.next g2 g3) hb' (hc.step hj) fun a'' w'' hr'=>hq a'' w'' (hr'.after g2)⟩

end
end Go.Proofs.Ytcepgfcolmdnoaa.E

namespace Go.Proofs.Ytcepgfcolmdnoaa.E
open Go Go.RowKit
set_option linter.unusedVariables false
set_option linter.unusedSimpArgs false

/-- A callee that was shown over some of the resources goes under all. -/
theorem EFn.frameX {P : Program} {f : FuncId} {args args' : List AV} {R Rs : List Res} {Q : AV → List Res → Prop} (σ : List Nat) (ho : okσ 0 R σ = true) (hR : reR 0 σ R = Rs) (ha : args.map (AV.sub R σ) = args') (h : EFn P f args' Rs Q) (hq : ∀ r S, Q r S → r.own = true ∧ S.all Res.own = true) :
  ∀ w W vals,AVs W R w args vals→Sep w W R→Calls P f vals.toArray w fun e w'=>(∃ r R' W',(∃ r0 S,Q r0 S∧r=r0.un R.length σ∧R'=back σ R S)∧(∃ v,e = .returned v∧AVR W' R' w' r v)∧Sep w' W' R'∧Trans w W R w' W' R') ∧ ∀ b,b<w.heap.size→(∀ i ∈ σ,¬ W.fs i b)→w'.heap[b]? = w.heap[b]? := by
 subst hR
 subst ha
 intro w W vals hv hs
 obtain⟨hd,hin⟩:=okσ_parts ho
 have hlt:∀ i ∈ σ,i<R.length:=fun i hi=>(hin i hi).2
 have hv0 : AVs (W.ren 0 σ) (reR 0 σ R) w (args.map (AV.sub R σ)) vals := by
  refine⟨by simp [hv.1],fun i x v hx hu=>?_⟩
  rw [List.getElem?_map] at hx
  cases hy:args[i]? with
  | none=>rw [hy] at hx;cases hx
  | some y =>
   rw [hy] at hx
   obtain rfl:=Option.some.inj hx
   exact (hv.2 i y v hy hu).sub hs ho
 have hs0:Sep w (W.ren 0 σ) (reR 0 σ R):=hs.ren (Nat.zero_le _) ho
 refine (h w (W.ren 0 σ) vals hv0 hs0).mono ?_
 rintro e w' ⟨r,S,V,k1,⟨v,rfl,k2⟩,k3,k4⟩
 obtain⟨q1,q2⟩:=hq r S k1
 have hRl:(reR 0 σ R).length=σ.length:=by rw [reR_len (Nat.zero_le _)];simp
 have hl:σ.length≤S.length:=by rw [← hRl];exact k4.len
 have hout : ∀ b, W.out w b → (W.ren 0 σ).out w b := fun b hb => ⟨hb.1, fun q hq' => by
  obtain⟨p,h1,_⟩:=Wit.ren_sub q b hq'
  exact hb.2 p h1⟩
 have hother : ∀ i, ix σ i = none → ∀ b, W.fs i b → (W.ren 0 σ).out w b := fun i hi b hb => ⟨hs.lt i b hb, fun q hq' => by
  obtain⟨p,h1,_,h3⟩:=Wit.ren_sub q b hq'
  have e:=hs.apart i p b hb h1
  subst e
  have:=h3 (by omega)
  rw [show q - 0=q by omega] at this
  exact AR.sub.ix_none hi (List.mem_of_getElem? this)⟩
 have hVlt : ∀ q b, V.fs q b → q < S.length := fun q b hb => by
  rcases Nat.lt_or_ge q S.length with h'|h'
  ·exact h'
  exact absurd hb (k3.out q h' b)
 have hVown : ∀ q b, V.fs q b → (∃ j, j ∈ σ ∧ W.fs j b) ∨ w.heap.size ≤ b := fun q b hb => by
  rcases k4.own q b hb with ⟨j,hj⟩|hj
  ·obtain ⟨p, h1, _, h3⟩ := Wit.ren_sub j b hj
   exact .inl ⟨p,List.mem_of_getElem? (h3 (by omega)),h1⟩
  exact .inr hj
 -- which resource has a block behind the call
 have hfs : ∀ i b, (W.back V R.length σ).fs i b → (i < R.length ∧ ix σ i = none ∧ W.fs i b) ∨ ∃ q, i = E.un R.length σ q ∧ V.fs q b := fun i b hb => by
  simp only [Wit.back] at hb
  split at hb
  ·rename_i hi
   cases hx:ix σ i with
   | none=>rw [hx] at hb;exact .inl ⟨hi,rfl,hb⟩
   | some q=>rw [hx] at hb;exact .inr ⟨q,by simp [E.un,ix_get hx],hb⟩
  rename_i hi
  refine .inr ⟨_,?_,hb⟩
  unfold E.un
  rw [List.getElem?_eq_none (by omega)]
  simp only
  omega
 have tr : Trans w W R w' (W.back V R.length σ) (back σ R S) := by
  refine⟨k4.os,k4.tape,k4.output,k4.size,fun b hb=>k4.frame b (hout b hb),fun i b hb=>?_,fun i=>?_⟩
  ·rcases hfs i b hb with ⟨_, _, h1⟩ | ⟨q, _, h1⟩
   ·exact .inl ⟨i,h1⟩
   rcases hVown q b h1 with ⟨j, _, hj⟩ | hj
   ·exact .inl ⟨j,hj⟩
   exact .inr hj
  rcases Nat.lt_or_ge i R.length with hi | hi
  ·rw [back_old hi]
   cases hx:ix σ i with
   | none =>
    have:(W.back V R.length σ).hs i=W.hs i:=by simp [Wit.back,hi,hx]
    rw [this];exact Goes.refl _ _
   | some q =>
    have hg:=ix_get hx
    have hqm : q < σ.length := by
     rcases Nat.lt_or_ge q σ.length with h'|h'
     ·exact h'
     rw [List.getElem?_eq_none h'] at hg;cases hg
    have hw:(W.back V R.length σ).hs i=V.hs q:=by simp [Wit.back,hi,hx]
    have h0:=k4.goes q
    have e1 : (reR 0 σ R)[q]? = some ((R[i]).ren 0 σ) := by
     have:=reR_new (n:=0) (R:=R) (Nat.zero_le _) hg
     rw [Nat.zero_add] at this
     rw [this,List.getElem?_eq_getElem hi];rfl
    have e2:(W.ren 0 σ).hs q=W.hs i:=by simp [Wit.ren,hg]
    rw [e1,e2,List.getElem?_eq_getElem (show q<S.length by omega)] at h0
    rw [hw,List.getElem?_eq_getElem hi]
    simp only
    rw [List.getElem?_eq_getElem (show q<S.length by omega)]
    simp only [Option.getD_some]
    generalize S[q]'(by omega)=s1 at h0
    generalize R[i]=r1 at h0
    cases r1<;>cases s1<;>exact h0
  rw [List.getElem?_eq_none hi];exact trivial
 refine ⟨⟨_, _, _, ⟨r, S, k1, rfl, rfl⟩, ⟨v, rfl, k2.un hd hlt hl q1⟩, ?_, tr⟩, fun b hb hn => k4.frame b ⟨hb, fun q hq' => by
  obtain⟨p,h1,_,h3⟩:=Wit.ren_sub q b hq'
  exact hn p (List.mem_of_getElem? (h3 (by omega))) h1⟩⟩
 refine⟨fun i s hi=>?_,fun i hi b hb=>?_,fun i hi b hb=>?_,fun i j b hi hj=>?_,fun i b hb=>?_⟩
 ·rcases un_back (W := W) (V := V) hd hlt hl hi with ⟨h1, h2, h3, h4, h5⟩ | ⟨q, hq', rfl, rfl⟩
  ·have e : (W.back V R.length σ).fs i = W.fs i := funext fun b => propext (h5 b)
   rw [h4,e]
   exact (hs.res i s h3).next tr fun b hb=>k4.frame b (hother i h2 b hb)
  obtain ⟨_, u2, u3, _⟩ := un_at (W := W) (V := V) hd hlt hq'
  have e:(W.back V R.length σ).fs (E.un R.length σ q)=V.fs q:=funext fun b=>propext (u3 b)
  rw [u2,e]
  have hr0:=k3.res q _ (List.getElem?_eq_getElem hq')
  have hown:Res.own (S[q])=true:=List.all_eq_true.1 q2 _ (List.getElem_mem hq')
  generalize S[q]=s1 at hr0 hown
  cases s1 with
  | box cs =>
   obtain⟨b,arr,e',f1,f2,f3,f4⟩:=hr0
   exact⟨b,arr,e',f1,f2,f3,f4.un hd hlt hl hown⟩
  | row e' k rows=>exact hr0
  | gone=>trivial
 ·rcases hfs i b hb with ⟨h1, _, _⟩ | ⟨q, rfl, h1⟩
  ·have := backR_len R.length σ S R 0
   unfold back at hi
   rw [List.length_append,this] at hi
   omega
  obtain ⟨_, _, _, u4⟩ := un_at (W := W) (V := V) hd hlt (hVlt q b h1)
  omega
 ·rcases un_back (W := W) (V := V) hd hlt hl hi with ⟨h1, h2, h3, h4, h5⟩ | ⟨q, hq', rfl, e⟩
  ·exact hs.gone i h3 b ((h5 b).1 hb)
  obtain ⟨_, _, u3, _⟩ := un_at (W := W) (V := V) hd hlt hq'
  have:=Res.un_gone e
  exact k3.gone q (by rw [List.getElem?_eq_getElem hq',this]) b ((u3 b).1 hb)
 ·rcases hfs i b hi with ⟨_, h2, h3⟩ | ⟨q, rfl, h3⟩ <;> rcases hfs j b hj with ⟨_, g2, g3⟩ | ⟨p, rfl, g3⟩
  ·exact hs.apart i j b h3 g3
  ·rcases hVown p b g3 with ⟨m, hm, hm2⟩ | hm
   ·have := hs.apart i m b h3 hm2
    subst this
    exact absurd hm (AR.sub.ix_none h2)
   exact absurd (hs.lt i b h3) (by omega)
  ·rcases hVown q b h3 with ⟨m, hm, hm2⟩ | hm
   ·have := hs.apart j m b g3 hm2
    subst this
    exact absurd hm (AR.sub.ix_none g2)
   exact absurd (hs.lt j b g3) (by omega)
  rw [k3.apart q p b h3 g3]
 rcases hfs i b hb with ⟨_, _, h3⟩ | ⟨q, _, h3⟩
 ·exact Nat.lt_of_lt_of_le (hs.lt i b h3) k4.size
 exact k3.lt q b h3

section
variable {P:Program} {N n:Nat} {ops:Array Oper} {s:Slots} {R RB:List Res} {K:Slots→List Res→Prop} {fuel:Nat} {listed listed':Array Bool} {ks:List Nat}

theorem BoxK.next {wB w w' : World} {WB W : Wit} (hsB : Sep wB WB RB) (ht : Trans wB WB RB w W R) (hs : Sep w W R) (hk : boxKeep RB R = true) (hb : BoxK ks RB WB wB w) (h : ∀ q ∈ ks, ∀ c, W.fs q c → w'.heap[c]? = w.heap[c]?) : BoxK ks RB WB wB w' := fun q hqk cs hq' c hc' => by
 obtain⟨cs',hq2⟩:=boxKeep_at hk q cs hq'
 have hw':=(box_block hsB ht hs hq' hq2 c).1 hc'
 exact (h q hqk c hw').trans (hb q hqk cs hq' c hc')

/-- What makes memory alone. -/
theorem d_heavy (i : Nat) {o : Oper} (hi : ops[i]? = some o) (hw : want ops o s = some true) (h : Heavy P N o s R fun s' R' => EAnyD P N ops ks RB fuel listed' s' R' K) (hk : boxKeep RB R = true := by rfl) (hl : listed.setIfInBounds i true = listed' := by rfl) : DStep P N ops i ks RB fuel listed s R K := by
 subst hl
 intro G wB WB a w W hsB ht hn hb hc hj hq
 have hc':=hc.step hj
 unfold wpOp
 simp only [hi,want_real hn hw,if_true]
 refine .inl (Oper.wp_mono (fun a' w' hh=>?_) (h _ a w W hn))
 obtain⟨hbl,s',R',W',h2,h3,h4⟩:=hh
 have hb':BoxK ks RB WB wB w':=hb.next hsB ht hn.sep hk fun q _ c hc2=>hbl.block c (hn.sep.lt q c hc2)
 exact⟨hb',h2 G wB WB a' w' W' hsB (ht.trans h4) h3 hb' hc' fun a'' w'' hr'=>hq a'' w'' (hr'.after h4)⟩

theorem D_frame {i d : Nat} {o : Oper} {x : Operand} {args : Array Operand} {ats : Array TypeId} {f : FuncId} {args' : List AV} {Rs : List Res} {Q : AV → List Res → Prop} (σ : List Nat) (hi : ops[i]? = some o) (hw : want ops o s = some true) (ho : o.op = .call { callee := .value x, args := args, argTypes := ats }) (hd : o.dst = some d) (hx : E.ev s x = .c (.fn f [])) (hf : callable P f = true)
  (hR:reR 0 σ R=Rs) (h:EFn P f args' Rs Q) (hk:∀ r R',(∃ r0 S,Q r0 S∧r=r0.un R.length σ∧R'=back σ R S)→EAnyD P N ops ks RB fuel listed' ((d,r)::s) R' K) (hσ:okσ 0 R σ=true) (ha:(args.toList.map (E.ev s)).map (AV.sub R σ)=args') (hq:∀ r S,Q r S→r.own=true∧S.all Res.own=true) (hN:d<N)
  (hkp:boxKeep RB R=true) (hdj:(σ.all fun q=>!ks.contains q)=true) (hl:listed.setIfInBounds i true=listed'):DStep P N ops i ks RB fuel listed s R K:=by
 subst hl
 intro G wB WB a w W hsB ht hn hb hc hj hqq
 have hc':=hc.step hj
 unfold wpOp
 simp only [hi,want_real hn hw,if_true]
 refine .inl ?_
 have hv:=hn.ev x
 rw [hx] at hv
 obtain⟨xs,e,h1⟩:=AR.fn_inv hv
 obtain rfl:xs=[]:=by cases h1;rfl
 unfold Oper.wp
 have hr : (execOp a.eval o).run P w = .ok (.enter f (args.map a.eval)) w := by
  simp only [execOp,ho,resolve,e,Deferred.ofValue,Sem.run_bind,Sem.run_pure,Result.andThen_ok,invoke]
  simpa using run_callFunc hf _ w
 rw [hr,Oper.upon_enter]
 have hav : AVs W R w (args.toList.map (E.ev s)) (args.toList.map a.eval) := by
  refine⟨by simp,fun i y v hy hu=>?_⟩
  rw [List.getElem?_map] at hy hu
  cases hi:args.toList[i]? with
  | none=>rw [hi] at hy;cases hy
  | some z =>
   rw [hi] at hy hu
   obtain rfl:E.ev s z=y:=by simpa using hy
   obtain rfl:a.eval z=v:=by simpa using hu
   exact hn.ev z
 have hcl:=EFn.frameX σ hσ hR ha h hq w W _ hav hn.sep
 have hh : (args.toList.map a.eval).toArray = args.map a.eval := by
  apply Array.ext';simp
 rw [hh] at hcl
 refine hcl.mono ?_
 rintro e' w' ⟨⟨r,R',W',k1,⟨v,rfl,k2⟩,k3,k4⟩,k5⟩
 have hb' : BoxK ks RB WB wB w' := hb.next hsB ht hn.sep hkp fun q hqk c hc2 => k5 c (hn.sep.lt q c hc2) fun p hp hpc => by
  obtain rfl:=hn.sep.apart _ _ _ hc2 hpc
  have:=List.all_eq_true.1 hdj _ hp
  have hm:ks.contains q=true:=by simpa using hqk
  rw [hm] at this;cases this
 rw [hd]
 exact⟨hb',hk r R' k1 G wB WB _ w' W' hsB (ht.trans k4) ((hn.next k4 k3).put hN k2) hb' hc' fun a'' w'' hr'=>hqq a'' w'' (hr'.after k4)⟩

theorem d_frame (i : Nat) {d : Nat} {o : Oper} {x : Operand} {args : Array Operand} {ats : Array TypeId} {f : FuncId} {args' : List AV} {Rs : List Res} {Q : AV → List Res → Prop} (σ : List Nat) (hi : ops[i]? = some o) (hw : want ops o s = some true) (ho : o.op = .call { callee := .value x, args := args, argTypes := ats }) (hd : o.dst = some d) (hx : ev s x = .c (.fn f [])) (hf : callable P f = true)
  (hR:reR 0 σ R=Rs) (h:EFn P f args' Rs Q) (hk:∀ r R',(∃ r0 S,Q r0 S∧r=r0.un R.length σ∧R'=back σ R S)→EAnyD P N ops ks RB fuel listed' ((d,r)::s) R' K) (hσ:okσ 0 R σ=true:=by rfl) (ha:(args.toList.map (E.ev s)).map (AV.sub R σ)=args':=by repeat' (first|(refine sub_whole rfl ?_;first|assumption|exact ints_len _|exact pairs_len _|exact quads_len _|exact quints_len _|exact bools_len _|(simp [ints_len,bools_len,pairs_len,quads_len,quints_len,part_len, *];done)|(simp [ints_len,bools_len,pairs_len,quads_len,quints_len];omega)|rfl)|refine agg_eq ?_|(refine subC_whole rfl ?_;first|assumption|exact ints_len _|exact pairs_len _|exact quads_len _|exact quints_len _|exact bools_len _|(simp [ints_len,bools_len,pairs_len,quads_len,quints_len,part_len, *];done)|(simp [ints_len,bools_len,pairs_len,quads_len,quints_len];omega)|rfl)|refine cons_eq ?_ ?_|rfl|(simp [E.lend,E.lendC,E.ev,E.cv,E.get,E.fill',E.fill,AV.sh,AC.sh,Res.sh,ints_len, *];done))) (hq:∀ r S,Q r S→r.own=true∧S.all Res.own=true:=by rintro r S ⟨rfl,rfl⟩;exact⟨rfl,rfl⟩) (hN:d<N:=by decide) (hkp:boxKeep RB R=true:=by rfl) (hdj:(σ.all fun q=>!ks.contains q)=true:=by rfl) (hl:listed.setIfInBounds i true=listed':=by rfl):DStep P N ops i ks RB fuel listed s R K :=
 D_frame σ hi hw ho hd hx hf hR h hk hσ ha hq hN hkp hdj hl

theorem d_call (i : Nat) {d : Nat} {o : Oper} {x : Operand} {args : Array Operand} {ats : Array TypeId} {f : FuncId} {args' : List AV} {Q : AV → List Res → Prop} (hi : ops[i]? = some o) (hw : want ops o s = some true) (ho : o.op = .call { callee := .value x, args := args, argTypes := ats }) (hd : o.dst = some d) (hx : ev s x = .c (.fn f [])) (hf : callable P f = true)
  (h:EFn P f args' [] Q) (hk:∀ r S,Q r S→EAnyD P N ops ks RB fuel listed' ((d,r.sh R.length)::s) (R++S.map (Res.sh R.length)) K) (ha:(args.toList.map (E.ev s)).map (E.lend R)=args':=by repeat' (first|(refine lend_whole rfl ?_;first|assumption|exact ints_len _|exact pairs_len _|exact quads_len _|exact quints_len _|exact bools_len _|(simp [ints_len,bools_len,pairs_len,quads_len,quints_len,part_len, *];done)|(simp [ints_len,bools_len,pairs_len,quads_len,quints_len];omega)|rfl)|refine agg_eq ?_|(refine lendC_whole rfl ?_;first|assumption|exact ints_len _|exact pairs_len _|exact quads_len _|exact quints_len _|exact bools_len _|(simp [ints_len,bools_len,pairs_len,quads_len,quints_len,part_len, *];done)|(simp [ints_len,bools_len,pairs_len,quads_len,quints_len];omega)|rfl)|refine cons_eq ?_ ?_|rfl|(simp [E.lend,E.lendC,E.ev,E.cv,E.get,E.fill',E.fill,AV.sh,AC.sh,Res.sh,ints_len, *];done))) (hq:∀ r S,Q r S→r.own=true∧S.all Res.own=true:=by rintro r S ⟨rfl,rfl⟩;exact⟨rfl,rfl⟩) (hN:d<N:=by decide) (hkp:boxKeep RB R=true:=by rfl) (hl:listed.setIfInBounds i true=listed':=by rfl):DStep P N ops i ks RB fuel listed s R K :=
 d_heavy i hi hw (H_pcall1 ho hd hN hx hf h ha hq hk) hkp hl

def AllD (P : Program) (N : Nat) (ops : Array Oper) (ks : List Nat) (RB : List Res) (fuel : Nat) (listed : Array Bool) (s : Slots) (R : List Res) (K : Slots → List Res → Prop) : List Nat → Prop
 | []=>True
 | i::l=>DStep P N ops i ks RB fuel listed s R K∧AllD P N ops ks RB fuel listed s R K l
theorem AllD.mem : ∀ {l : List Nat}, AllD P N ops ks RB fuel listed s R K l → ∀ i ∈ l, DStep P N ops i ks RB fuel listed s R K
 | [],_,i,hi=>by cases hi
 | j :: l, h, i, hi => by
  rcases List.mem_cons.1 hi with rfl|hi
  ·exact h.1
  exact AllD.mem h.2 i hi
theorem d_any (j : Nat) (l : List Nat) (h : AllD P N ops ks RB fuel listed s R K (j :: l)) (hr : Region.ready .any ops listed = j :: l := by kernel_rfl) : EAnyD P N ops ks RB (fuel + 1) listed s R K := by
 intro G wB WB a w W hsB ht hn hb hc hq
 refine⟨fun h0=>(by rw [hr] at h0;cases h0),fun k hk=>?_⟩
 exact wpOp_mono (fun a' w' h'=>.inl h') (h.mem k (hr ▸ hk) G wB WB a w W hsB ht hn hb hc hk hq)
end
end Go.Proofs.Ytcepgfcolmdnoaa.E

namespace Go.Proofs.Ytcepgfcolmdnoaa.E
open Go Go.RowKit
set_option linter.unusedVariables false
set_option linter.unusedSimpArgs false

section
variable {P:Program} {N:Nat} {s:Slots} {R:List Res}
end

/-! Bits -/
end Go.Proofs.Ytcepgfcolmdnoaa.E

namespace Go.Proofs.Ytcepgfcolmdnoaa.E
open Go Go.RowKit Go.ChangeShapes Go.WideShapes Go.ChangeAt
set_option linter.unusedVariables false
set_option linter.unusedSimpArgs false

def bytes (l:List Int):List (List T):=l.map fun x=>[.sc (.int .u8 x)]
section
variable {H:Type} {enc:TypeId × Value→H} {P:Program} {w:World} {sp:Nat→Bool} {held:Bool}
end

end Go.Proofs.Ytcepgfcolmdnoaa.E
