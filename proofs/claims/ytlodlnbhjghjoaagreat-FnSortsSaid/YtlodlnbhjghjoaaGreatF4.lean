/- Words of the session's own, put together: part 4. -/
import Derived.Test.YtlodlnbhjghjoaaGreatF3
namespace Go.Proofs.YtlodlnbhjghjoaaGreat.E
open Go Go.RowKit
set_option linter.unusedVariables false
set_option linter.unusedSimpArgs false

end Go.Proofs.YtlodlnbhjghjoaaGreat.E

namespace Go.Proofs.YtlodlnbhjghjoaaGreat.E
open Go Go.RowKit
set_option linter.unusedVariables false
set_option linter.unusedSimpArgs false

end Go.Proofs.YtlodlnbhjghjoaaGreat.E

namespace Go.Proofs.YtlodlnbhjghjoaaGreat.E
open Go Go.RowKit
set_option linter.unusedVariables false
set_option linter.unusedSimpArgs false

theorem L_rem {P : Program} {s : Slots} {R : List Res} {o : Oper} {t t' : Nat} {x y : Operand} {u v : Int} (ho : o.op = .binOp .rem t x y t') (hx : E.ev s x = .c (.sc (.int .i64 u))) (hy : E.ev s y = .c (.sc (.int .i64 v))) (hu : 0 ≤ u) (hv : 0 < v) : Pure P o s R (.c (.sc (.int .i64 (u % v)))) := fun N a w W hn =>
 ⟨.int .i64 (u % v), AR.sc1 (v := .int .i64 (u % v)) rfl, fun w' => by
  have hv0:v ≠ 0:=by omega
  have hm:Int.tmod u v=u % v:=Int.tmod_eq_emod_of_nonneg hu
  have hr : (do eqGuard .rem t x y (.int .i64 u) (.int .i64 v); binOp .rem t (.int .i64 u) (.int .i64 v)).run P w' = .ok (.int .i64 (u % v)) w' := by
   simp [eqGuard,binOp,Op.intDiv,hv0,hm]
  simp only [execOp,ho,hn.sc hx,hn.sc hy]
  simp only [Sem.run_bind] at hr ⊢
  rw [hr];rfl⟩

end Go.Proofs.YtlodlnbhjghjoaaGreat.E

namespace Go.Proofs.YtlodlnbhjghjoaaGreat.E
open Go Go.RowKit
set_option linter.unusedVariables false
set_option linter.unusedSimpArgs false

def EAnyU (P : Program) (N : Nat) (ops : Array Oper) (fuel : Nat) (listed : Array Bool) (s : Slots) (R : List Res) (K : Slots → List Res → Prop) : Prop :=
 ∀ (G:Act→World→Prop) a w W,Now N s R a w W→Closed .any ops listed→(∀ a' w',Reach N w W R K a' w'→G a' w')→wpAnyJ P .any ops (fun ex a' w'=>ex = .normal∧G a' w') fuel (fun _=>True) listed a w

def UStep (P : Program) (N : Nat) (ops : Array Oper) (i : Nat) (fuel : Nat) (listed : Array Bool) (s : Slots) (R : List Res) (K : Slots → List Res → Prop) : Prop :=
 ∀ (G : Act → World → Prop) a w W, Now N s R a w W → Closed .any ops listed → i ∈ Region.ready .any ops listed → (∀ a' w', Reach N w W R K a' w' → G a' w') →
  wpOp P ops (fun ex a' w'=>ex = .normal∧G a' w') i (fun a' w'=>wpAnyJ P .any ops (fun ex a' w'=>ex = .normal∧G a' w') fuel (fun _=>True) (listed.setIfInBounds i true) a' w') a w

section
variable {P:Program} {N n:Nat} {ops:Array Oper} {s:Slots} {R:List Res} {K:Slots→List Res→Prop} {fuel:Nat} {listed listed':Array Bool}

theorem E_drawU {id : Nat} {Q : Exit → Slots → List Res → Prop} (hm : P.follows .mixedOrders = true) (h : EAnyU P N ops ops.size (Array.replicate ops.size false) s R (Q .normal)) : ECode P N (.region id ops true) s R Q := by
 intro a w W hn
 obtain⟨h1,h2⟩:=hn.draw
 have:=h (fun a' w'=>Reach N w W R (Q .normal) a' w') a { w with drawn:=w.drawn+1 } W h1 (Closed.start _ _ _) fun a' w' hr=>hr.after h2
 refine wp_mono (wp_region_any hm (wpAny_of_J _ _ _ _ _ this)) ?_
 rintro e a' w' ⟨rfl,hr⟩
 exact hr
theorem G_drawU {id:Nat} {Q:Exit→Slots→List Res→Prop} (hm:P.follows .mixedOrders=true) (h:EAnyU P N ops ops.size (Array.replicate ops.size false) s R (Q .normal)):GCode P N n (.region id ops true) s R Q:=G_E (E_drawU hm h)

theorem u_done (h : K s R) (hr : Region.ready .any ops listed = [] := by kernel_rfl) : EAnyU P N ops fuel listed s R K :=
 fun G a w W hn hc hq=>wpAnyJ_done hr ⟨rfl,hq a w ⟨s,R,W,h,hn,.refl ..⟩⟩ fuel

theorem u_pure (i : Nat) {d : Nat} {o : Oper} {y : AV} (hi : ops[i]? = some o) (hw : want ops o s = some true) (hd : o.dst = some d) (hv : Pure P o s R y) (h : EAnyU P N ops fuel listed' ((d, y) :: s) R K) (hs : Region.noSelect ops = true := by kernel_rfl) (hf : Region.free .any ops listed i = true := by kernel_rfl) (hr : (Region.ready .any ops listed).contains i = true := by kernel_rfl) (hN : d < N := by decide) (hl : listed.setIfInBounds i true = listed' := by rfl) : EAnyU P N ops (fuel + 1) listed s R K := by
 subst hl
 intro G a w W hn hc hq
 obtain⟨v,hy,hrun⟩:=hv N a w W hn
 refine wpAnyJ_take0 hc hi hs hf hr (fun c a' w' hp=>by cases hp.1) (v:=v) (.inl ⟨want_real hn hw,fun w' _=>hrun w'⟩) trivial ?_
 rw [hd]
 exact h G _ w W (hn.put hN hy) (hc.step (by simpa using hr)) hq

theorem u_op (i : Nat) {o : Oper} (hi : ops[i]? = some o) (hw : want ops o s = some true) (h : EOp P N o s R fun s' R' => EAnyU P N ops fuel listed' s' R' K) (hl : listed.setIfInBounds i true = listed' := by rfl) : UStep P N ops i fuel listed s R K := by
 subst hl
 intro G a w W hn hc hj hq
 have hc':=hc.step hj
 unfold wpOp
 simp only [hi,want_real hn hw,if_true]
 refine .inl (Oper.wp_mono (fun a' w' hh=>?_) (h _ a w W hn))
 obtain⟨s',R',W',h2,h3,h4⟩:=hh
 exact h2 G a' w' W' h3 hc' fun a'' w'' hr'=>hq a'' w'' (hr'.after h4)

def AllU (P : Program) (N : Nat) (ops : Array Oper) (fuel : Nat) (listed : Array Bool) (s : Slots) (R : List Res) (K : Slots → List Res → Prop) : List Nat → Prop
 | []=>True
 | i::l=>UStep P N ops i fuel listed s R K∧AllU P N ops fuel listed s R K l
theorem AllU.mem : ∀ {l : List Nat}, AllU P N ops fuel listed s R K l → ∀ i ∈ l, UStep P N ops i fuel listed s R K
 | [],_,i,hi=>by cases hi
 | j :: l, h, i, hi => by
  rcases List.mem_cons.1 hi with rfl|hi
  ·exact h.1
  exact AllU.mem h.2 i hi

/-- All that may come up come up. -/
theorem u_any (j : Nat) (l : List Nat) (h : AllU P N ops fuel listed s R K (j :: l)) (hr : Region.ready .any ops listed = j :: l := by kernel_rfl) : EAnyU P N ops (fuel + 1) listed s R K := by
 intro G a w W hn hc hq
 refine⟨fun h0=>(by rw [hr] at h0;cases h0),fun k hk=>?_⟩
 have hs:=h.mem k (hr ▸ hk) G a w W hn hc hk hq
 exact wpOp_mono (fun a' w' h'=>.inl ⟨trivial,h'⟩) hs

end

theorem u_call {P : Program} {N : Nat} {ops : Array Oper} {s : Slots} {R : List Res} {K : Slots → List Res → Prop} {fuel : Nat} {listed listed' : Array Bool} {o : Oper} (i : Nat) {d : Nat} {x : Operand} {args : Array Operand} {ats : Array TypeId} {f : FuncId} {args' : List AV} {Q : AV → List Res → Prop} (hi : ops[i]? = some o) (hw : want ops o s = some true) (ho : o.op = .call { callee := .value x, args := args, argTypes := ats }) (hd : o.dst = some d) (hx : ev s x = .c (.fn f [])) (hf : callable P f = true)
  (h:EFn P f args' [] Q) (hk:∀ r S,Q r S→EAnyU P N ops fuel listed' ((d,r.sh R.length)::s) (R++S.map (Res.sh R.length)) K) (ha:(args.toList.map (E.ev s)).map (E.lend R)=args':=by repeat' (first|(refine lend_whole rfl ?_;first|assumption|exact ints_len _|exact pairs_len _|exact quads_len _|exact quints_len _|exact bools_len _|(simp [ints_len,bools_len,pairs_len,quads_len,quints_len,part_len, *];done)|(simp [ints_len,bools_len,pairs_len,quads_len,quints_len];omega)|rfl)|refine agg_eq ?_|(refine lendC_whole rfl ?_;first|assumption|exact ints_len _|exact pairs_len _|exact quads_len _|exact quints_len _|exact bools_len _|(simp [ints_len,bools_len,pairs_len,quads_len,quints_len,part_len, *];done)|(simp [ints_len,bools_len,pairs_len,quads_len,quints_len];omega)|rfl)|refine cons_eq ?_ ?_|rfl|(simp [E.lend,E.lendC,E.ev,E.cv,E.get,E.fill',E.fill,AV.sh,AC.sh,Res.sh,ints_len, *];done))) (hq:∀ r S,Q r S→r.own=true∧S.all Res.own=true:=by rintro r S ⟨rfl,rfl⟩;exact⟨rfl,rfl⟩) (hN:d<N:=by decide) (hl:listed.setIfInBounds i true=listed':=by rfl):UStep P N ops i fuel listed s R K :=
 u_op i hi hw (Heavy.op (H_pcall1 ho hd hN hx hf h ha hq hk)) hl

end Go.Proofs.YtlodlnbhjghjoaaGreat.E

namespace Go.Proofs.YtlodlnbhjghjoaaGreat.E
open Go Go.RowKit
set_option linter.unusedVariables false
set_option linter.unusedSimpArgs false

/-- These variables hold what they held at the beginning. -/
def BoxK (ks:List Nat) (RB:List Res) (WB:Wit) (wB w:World):Prop:=∀ j ∈ ks,∀ cs,RB[j]? = some (.box cs) → ∀ c,WB.fs j c→w.heap[c]? = wB.heap[c]?

section
variable {P:Program} {N n:Nat} {ops:Array Oper} {s:Slots} {R RB:List Res} {K:Slots→List Res→Prop} {fuel:Nat} {listed listed':Array Bool} {ks:List Nat}

/-- Number i comes up. -/
def DStep (P : Program) (N : Nat) (ops : Array Oper) (i : Nat) (ks : List Nat) (RB : List Res) (fuel : Nat) (listed : Array Bool) (s : Slots) (R : List Res) (K : Slots → List Res → Prop) : Prop :=
 ∀ (G : Act → World → Prop) (wB : World) (WB : Wit) a w W, Sep wB WB RB → Trans wB WB RB w W R → Now N s R a w W → BoxK ks RB WB wB w → Closed .any ops listed → i ∈ Region.ready .any ops listed → (∀ a' w', Reach N w W R K a' w' → G a' w') →
  wpOp P ops (fun ex a' w'=>ex = .normal∧G a' w') i (fun a' w'=>BoxK ks RB WB wB w'∧wpAnyJ P .any ops (fun ex a' w'=>ex = .normal∧G a' w') fuel (fun w'=>BoxK ks RB WB wB w') (listed.setIfInBounds i true) a' w') a w

end
end Go.Proofs.YtlodlnbhjghjoaaGreat.E

namespace Go.Proofs.YtlodlnbhjghjoaaGreat.E
open Go Go.RowKit
set_option linter.unusedVariables false
set_option linter.unusedSimpArgs false

section
variable {P:Program} {N n:Nat} {ops:Array Oper} {s:Slots} {R RB:List Res} {K:Slots→List Res→Prop} {fuel:Nat} {listed listed':Array Bool} {ks:List Nat}

theorem BoxK.next {wB w w' : World} {WB W : Wit} (hsB : Sep wB WB RB) (ht : Trans wB WB RB w W R) (hs : Sep w W R) (hk : boxKeep RB R = true) (hb : BoxK ks RB WB wB w) (h : ∀ q ∈ ks, ∀ c, W.fs q c → w'.heap[c]? = w.heap[c]?) : BoxK ks RB WB wB w' := fun q hqk cs hq' c hc' => by
 obtain⟨cs',hq2⟩:=boxKeep_at hk q cs hq'
 have hw':=(box_block hsB ht hs hq' hq2 c).1 hc'
 exact (h q hqk c hw').trans (hb q hqk cs hq' c hc')

def AllD (P : Program) (N : Nat) (ops : Array Oper) (ks : List Nat) (RB : List Res) (fuel : Nat) (listed : Array Bool) (s : Slots) (R : List Res) (K : Slots → List Res → Prop) : List Nat → Prop
 | []=>True
 | i::l=>DStep P N ops i ks RB fuel listed s R K∧AllD P N ops ks RB fuel listed s R K l
theorem AllD.mem : ∀ {l : List Nat}, AllD P N ops ks RB fuel listed s R K l → ∀ i ∈ l, DStep P N ops i ks RB fuel listed s R K
 | [],_,i,hi=>by cases hi
 | j :: l, h, i, hi => by
  rcases List.mem_cons.1 hi with rfl|hi
  ·exact h.1
  exact AllD.mem h.2 i hi
end
end Go.Proofs.YtlodlnbhjghjoaaGreat.E

namespace Go.Proofs.YtlodlnbhjghjoaaGreat.E
open Go Go.RowKit
set_option linter.unusedVariables false
set_option linter.unusedSimpArgs false

section
variable {P:Program} {N:Nat} {s:Slots} {R:List Res}
end

/-! Bits -/
def bitI (op : BinOp) (u v : Int) : Int := match op with
 | .and=>IntKind.i64.wrap (BitVec.ofInt 64 u &&& BitVec.ofInt 64 v).toNat
 | .xor=>IntKind.i64.wrap (BitVec.ofInt 64 u ^^^ BitVec.ofInt 64 v).toNat
 | _=>0
theorem and_bd (u : Int) {m : Int} (h0 : 0 ≤ m) (h1 : m ≤ 9223372036854775807) : 0 ≤ bitI .and u m ∧ bitI .and u m ≤ m := by
 have h2 : (BitVec.ofInt 64 u &&& BitVec.ofInt 64 m).toNat ≤ m.toNat := by
  rw [BitVec.toNat_and]
  have h3:(BitVec.ofInt 64 m).toNat=m.toNat:=by rw [BitVec.toNat_ofInt];congr 1;exact Int.emod_eq_of_lt h0 (by omega)
  rw [h3];exact Nat.and_le_right
 simp only [bitI]
 generalize (BitVec.ofInt 64 u &&& BitVec.ofInt 64 m).toNat=q at h2
 have h4:IntKind.i64.wrap (q:Int)=q:=wrap_id (by omega) (by omega)
 rw [h4];omega
theorem L_and {P : Program} {s : Slots} {R : List Res} {o : Oper} {t t' : Nat} {x y : Operand} {u v : Int} (ho : o.op = .binOp .and t x y t') (hx : E.ev s x = .c (.sc (.int .i64 u))) (hy : E.ev s y = .c (.sc (.int .i64 v))) : Pure P o s R (.c (.sc (.int .i64 (bitI .and u v)))) := fun N a w W hn =>
 ⟨.int .i64 (bitI .and u v), AR.sc1 (v := .int .i64 (bitI .and u v)) rfl, fun w' => by
  have hr : (do eqGuard .and t x y (.int .i64 u) (.int .i64 v); binOp .and t (.int .i64 u) (.int .i64 v)).run P w' = .ok (.int .i64 (bitI .and u v)) w' := by
   simp only [eqGuard,binOp,Op.intBits,bitI,Sem.run_bind]
   rfl
  simp only [execOp,ho,hn.sc hx,hn.sc hy]
  simp only [Sem.run_bind] at hr ⊢
  rw [hr];rfl⟩
theorem L_xor {P : Program} {s : Slots} {R : List Res} {o : Oper} {t t' : Nat} {x y : Operand} {u v : Int} (ho : o.op = .binOp .xor t x y t') (hx : E.ev s x = .c (.sc (.int .i64 u))) (hy : E.ev s y = .c (.sc (.int .i64 v))) : Pure P o s R (.c (.sc (.int .i64 (bitI .xor u v)))) := fun N a w W hn =>
 ⟨.int .i64 (bitI .xor u v), AR.sc1 (v := .int .i64 (bitI .xor u v)) rfl, fun w' => by
  have hr : (do eqGuard .xor t x y (.int .i64 u) (.int .i64 v); binOp .xor t (.int .i64 u) (.int .i64 v)).run P w' = .ok (.int .i64 (bitI .xor u v)) w' := by
   simp only [eqGuard,binOp,Op.intBits,bitI,Sem.run_bind]
   rfl
  simp only [execOp,ho,hn.sc hx,hn.sc hy]
  simp only [Sem.run_bind] at hr ⊢
  rw [hr];rfl⟩
def shrI (u v:Int):Int:=u.fdiv (2 ^ (min v.toNat 64))
theorem L_shr {P : Program} {s : Slots} {R : List Res} {o : Oper} {t t' : Nat} {x y : Operand} {u v : Int} (ho : o.op = .binOp .shr t x y t') (hx : E.ev s x = .c (.sc (.int .i64 u))) (hy : E.ev s y = .c (.sc (.int .u64 v))) (hv : 0 ≤ v := by decide) : Pure P o s R (.c (.sc (.int .i64 (shrI u v)))) := fun N a w W hn =>
 ⟨.int .i64 (shrI u v), AR.sc1 (v := .int .i64 (shrI u v)) rfl, fun w' => by
  have hr : (do eqGuard .shr t x y (.int .i64 u) (.int .u64 v); binOp .shr t (.int .i64 u) (.int .u64 v)).run P w' = .ok (.int .i64 (shrI u v)) w' := by
   have:¬ v<0:=by omega
   simp [eqGuard,binOp,Op.shift,shrI,IntKind.bits,this]
  simp only [execOp,ho,hn.sc hx,hn.sc hy]
  simp only [Sem.run_bind] at hr ⊢
  rw [hr];rfl⟩
/-- A byte taken for an integer. -/
theorem L_conv {P : Program} {s : Slots} {R : List Res} {o : Oper} {t t' : Nat} {x : Operand} {u : Int} {k : IntKind} (ho : o.op = .convert t t' x) (ht : P.underlying t = some (.int .u8)) (ht' : P.underlying t' = some (.int .i64)) (hx : E.ev s x = .c (.sc (.int k u))) (hu : -9223372036854775808 ≤ u ∧ u ≤ 9223372036854775807) : Pure P o s R (.c (.sc (.int .i64 u))) := fun N a w W hn =>
 ⟨.int .i64 u, AR.sc1 (v := .int .i64 u) rfl, fun w' => by
  have hwr:IntKind.i64.wrap u=u:=wrap_id hu.1 hu.2
  simp only [execOp,ho,hn.sc hx,convert,Sem.run_bind,run_underlying_ ht,run_underlying_ ht',Result.andThen_ok,Conv.intToInt,hwr]
  rfl⟩
end Go.Proofs.YtlodlnbhjghjoaaGreat.E

namespace Go.Proofs.YtlodlnbhjghjoaaGreat.E
open Go Go.RowKit Go.ChangeShapes Go.WideShapes Go.ChangeAt
set_option linter.unusedVariables false
set_option linter.unusedSimpArgs false

def bytes (l:List Int):List (List T):=l.map fun x=>[.sc (.int .u8 x)]
theorem bytes_len (l:List Int):(bytes l).length=l.length:=by simp [bytes]
theorem bytes_at {l:List Int} {k:Nat} {x:Int} (h:l[k]? = some x):(bytes l)[k]? = some [.sc (.int .u8 x)]:=by simp [bytes,h]

section
variable {H:Type} {enc:TypeId × Value→H} {P:Program} {w:World} {sp:Nat→Bool} {held:Bool}
theorem rows_ofG {D : Type} {en : D → List T} {okk : D → Prop} {k : Nat} {a : Addr} {tr : List Value → Option (DataW H × List MemPlace)}
  (hone:∀ cs x,tr cs=some x → ∃ y,okk y∧Rd w (fun b=>b<w.heap.size) (en y) cs) :
  ∀ (elems:List (DataW H × List MemPlace)) (m:Nat),(∀ i,i<elems.length→(w.cells? 0 (a.add ((m+i)*k)) k).bind tr=elems[i]?) →
  ∃ (ys:List D) (inner:List Value),ys.length=elems.length∧(∀ y ∈ ys,okk y)∧Rd w (fun b=>b<w.heap.size) (ys.map en).flatten inner∧inner.length=elems.length*k ∧ ∀ j u,inner[j]? = some u→w.cell? (a.add (m*k+j))=some u
 | [],m,h=>⟨[],[],rfl,by simp,.nil,by simp,by simp⟩
 | x :: elems, m, h => by
  have h0:=h 0 (by simp)
  simp only [List.getElem?_cons_zero,Nat.add_zero,Option.bind_eq_some_iff] at h0
  obtain⟨cs,h1,h2⟩:=h0
  obtain⟨y,hy,hrd⟩:=hone cs x h2
  obtain⟨-,hl,hc⟩:=World.cells?_some h1
  obtain ⟨ys, inner, g1, g2, g3, g4, g5⟩ := rows_ofG hone elems (m + 1) (fun i hi => by
   have:=h (i+1) (by simp;omega)
   rw [List.getElem?_cons_succ] at this
   rw [show m+1+i=m+(i+1) by omega];exact this)
  refine⟨y::ys,cs++inner,by simp [g1],fun z hz=>by rcases List.mem_cons.1 hz with rfl|hz;exact hy;exact g2 z hz,?_,by simp [hl,g4,Nat.add_mul];omega,fun j u hj=>?_⟩
  ·rw [List.map_cons,List.flatten_cons];exact hrd.append g3
  rw [List.getElem?_append] at hj
  have hadd : ∀ p q, (a.add p).add q = a.add (p + q) := fun p q => by
   unfold Addr.add
   by_cases hp:p=0<;>by_cases hq:q=0<;>simp [hp,hq]
   omega
  split at hj
  ·rename_i hlt
   rw [hl] at hlt
   have:=hc j hlt
   rw [hj,hadd] at this
   exact this
  have := g5 _ u hj
  rw [show (m+1)*k+(j - cs.length)=m*k+j by rw [Nat.add_mul,hl];omega] at this
  exact this


theorem open_bytes {t u : TypeId} {r : Go.Reach} {b0 : Nat} {v : Value} {d : DataW H} {ps : List MemPlace} (ht : P.underlying t = some (.slice u)) (hu : P.underlying u = some (.int .u8)) (h1 : P.cellsOf u = 1) (hv : Value.okWide P w r b0 t v) (hd : DataW.Trod enc P w 0 sp held t v d ps) :
  ∃ l:List Int,(∀ x ∈ l,0≤x∧x≤255)∧AVR W0 [] w (.c (.ro (bytes l))) v:=by
 obtain⟨n,h⟩:=hd
 have key : ∃ l : List Int, (∀ x ∈ l, 0 ≤ x ∧ x ≤ 255) ∧ Rd w (fun b => b < w.heap.size) [.sl (bytes l)] v.cells.toList := by
  generalize v.cells.toList=cs at h ⊢
  rcases DataW.trod_slice ht h with ⟨rfl,-⟩|⟨a,len,cap,elems,rest,m,rfl,rfl,-,-,hlc,hcm,hlen,hel,-,-⟩
  ·exact⟨[],by simp,nil_ro _ _⟩
  obtain ⟨ys, inner, g1, g2, g3, g4, g5⟩ := rows_ofG (D := Int) (en := fun x => [.sc (.int .u8 x)]) (okk := fun x => 0 ≤ x ∧ x ≤ 255) (w := w) (a := a) (k := P.cellsOf u) (tr := DataW.trod enc P w 0 sp held m u) (fun cs x hx => by
   obtain⟨z,rfl,-,hw⟩:=DataW.trod_int hu hx
   refine⟨z,?_,.sc rfl .nil⟩
   simp [Lit.wf,IntKind.has,IntKind.min,IntKind.max,IntKind.bits,IntKind.signed] at hw
   exact⟨by omega,by omega⟩) elems 0 (fun i hi=>by rw [Nat.zero_add];exact hel i (by omega))
  refine⟨ys,g2,?_⟩
  have := Rd.sl (w := w) (O := fun b => b < w.heap.size) (rows := bytes ys) (a := some a) (c := cap) (inner := inner) (ts := []) (vs := []) 1 ⟨by rw [bytes_len, g1]; omega, hcm⟩ (by decide) (fun r hr => by
    obtain⟨y,_,rfl⟩:=List.mem_map.1 hr
    rfl) (fun hp=>by
    rw [bytes_len,g1] at hp
    have hin:0<inner.length:=by rw [g4,h1];omega
    have hc:=g5 0 inner[0] (List.getElem?_eq_getElem hin)
    simp only [Nat.zero_mul,Nat.zero_add] at hc
    have ha:a.add 0=a:=by simp [Addr.add]
    rw [ha] at hc
    have hs : a.spot = none := by
     unfold World.cell? at hc
     split at hc
     ·split at hc
      ·cases hc
      rename_i hsp;simpa using hsp
     cases hc
    refine⟨a.block,a.off,by rw [← hs],World.block_lt_of_cell? w _ hc,fun j u hj=>?_⟩
    have:=g5 j u hj
    rw [Nat.zero_mul,Nat.zero_add] at this
    have e1 : a.add j = ⟨a.block, a.off + j, none⟩ := by
     unfold Addr.add
     split
     ·rename_i h0;subst h0;rw [Nat.add_zero,← hs]
     rfl
    rwa [e1] at this) g3 .nil
  rw [bytes_len,g1,hlen] at this
  exact this
 obtain⟨l,h1,h2⟩:=key
 refine⟨l,h1,?_⟩
 have h3:Rd w (W0.out w) [.sl (bytes l)] v.cells.toList:=h2.mono fun b hb=>⟨⟨hb,fun _ h=>h⟩,rfl⟩
 obtain⟨a,n,c,rfl⟩:=okWide_slice ht hv
 exact h3.ar
end

/-- What a cursor holds. -/
def curC (l:List Int) (i h:Int):List AC:=[.ro (bytes l),.sc (.int .i64 i),.sc (.int .i64 h)]
def curOk (l:List Int) (i:Int):Prop:=0≤i∧i≤l.length
/-- What is asked where a function ends that leaves its resources as they stand. -/
def RetK (P : Program) (rs : List ResultVar) (Q : AV → List Res → Prop) : Exit → Slots → List Res → Prop
 | .normal,s,R=>∃ y,resv P R s rs=some y∧Q y R
 | .ret,s,R=>∃ y,resv P R s rs=some y∧Q y R
 | _,_,_=>False

theorem E_fnK {P : Program} {f : FuncId} {fn : Func} {c : Code} {args : List AV} {R : List Res} {Q : AV → List Res → Prop} (hf : P.funcs[f]? = some fn) (hb : fn.body = some c) (ha : args.length ≤ fn.ntmps)
  (h:ECode P fn.ntmps c (slotsOf 0 args) R (RetK P fn.results.toList Q)):EFn P f args R Q:=by
 intro w W vals hv hs
 have hnow : Now fn.ntmps (slotsOf 0 args) R { tmps := vals.toArray ++ Array.replicate (fn.ntmps - vals.toArray.size) undef, defers := [] } w W := by
  refine⟨by simp [hv.1];omega,rfl,fun t=>?_,hs⟩
  rw [get_slotsOf,if_pos (Nat.zero_le _),Nat.sub_zero]
  cases hx:args[t]? with
  | none=>exact AVR.any ..
  | some x =>
   have hlt : t < vals.length := by
    rw [hv.1]
    rcases Nat.lt_or_ge t args.length with h'|h'
    ·exact h'
    rw [List.getElem?_eq_none h'] at hx;cases hx
   have hu:vals[t]? = some vals[t]:=List.getElem?_eq_getElem hlt
   have:=hv.2 t x _ hx hu
   simpa [Array.getD_eq_getD_getElem?,Array.getElem?_append,hlt] using this
 refine calls_of_wp hf hb (wp_mono (h _ w W hnow) fun e a w' hr=>?_)
 obtain⟨s',R',W',hq,hn',ht⟩:=hr
 have fin : (∃ y, resv P R' s' fn.results.toList = some y ∧ Q y R') →
   a.defers=[] ∧ ∃ v,(results fn a.tmps).run P w' = .ok v w' ∧ ∃ r R' W',Q r R'∧(∃ u,Ending.returned v = .returned u∧AVR W' R' w' r u)∧Sep w' W' R'∧Trans w W R w' W' R':=by
  rintro⟨y,h1,h3⟩
  obtain⟨v,k1,k2⟩:=resv_run hn' h1
  exact⟨hn'.defers,v,k1,y,_,W',h3,⟨v,rfl,k2⟩,hn'.sep,ht⟩
 cases e with
 | normal=>exact fin hq
 | ret=>exact fin hq
 | exit id=>exact hq.elim
 | goto l=>exact hq.elim
 | panic ch=>exact hq.elim
 | outgrown=>exact hq.elim
end Go.Proofs.YtlodlnbhjghjoaaGreat.E

namespace Go.Proofs.YtlodlnbhjghjoaaGreat.E
open Go Go.RowKit
set_option linter.unusedVariables false
set_option linter.unusedSimpArgs false

theorem L_nilCheck {P : Program} {s : Slots} {R : List Res} {o : Oper} {x : Operand} {i off : Nat} {xs : List AC} (ho : o.op = .nilCheck x) (hx : E.ev s x = .c (.bp i off)) (hR : R[i]? = some (.box xs)) : Pure P o s R (.c (.bp i off)) := fun N a w W hn => by
 have hv:=hn.ev x
 rw [hx] at hv
 have hv':AR W R w [.bp i off] [a.eval x]:=hv
 refine⟨a.eval x,hv,fun w'=>?_⟩
 cases hv' with
 | bp h1 h2 h3 _ =>
  obtain⟨b,k1,k2⟩:=h3 _ hR
  simp [execOp,ho,k2]
end Go.Proofs.YtlodlnbhjghjoaaGreat.E

namespace Go.Proofs.YtlodlnbhjghjoaaGreat.E
open Go Go.RowKit
set_option linter.unusedVariables false
set_option linter.unusedSimpArgs false

theorem L_quo {P : Program} {s : Slots} {R : List Res} {o : Oper} {t t' : Nat} {x y : Operand} {u v : Int} (ho : o.op = .binOp .quo t x y t') (hx : E.ev s x = .c (.sc (.int .i64 u))) (hy : E.ev s y = .c (.sc (.int .i64 v))) (hv : v ≠ 0) : Pure P o s R (.c (.sc (.int .i64 (IntKind.i64.wrap (Int.tdiv u v))))) := fun N a w W hn =>
 ⟨.int .i64 (IntKind.i64.wrap (Int.tdiv u v)), AR.sc1 (v := .int .i64 (IntKind.i64.wrap (Int.tdiv u v))) rfl, fun w' => by
  have hr : (do eqGuard .quo t x y (.int .i64 u) (.int .i64 v); binOp .quo t (.int .i64 u) (.int .i64 v)).run P w' = .ok (.int .i64 (IntKind.i64.wrap (Int.tdiv u v))) w' := by
   simp [eqGuard,binOp,Op.intDiv,hv]
  simp only [execOp,ho,hn.sc hx,hn.sc hy]
  simp only [Sem.run_bind] at hr ⊢
  rw [hr];rfl⟩

end Go.Proofs.YtlodlnbhjghjoaaGreat.E

namespace Go.Proofs.YtlodlnbhjghjoaaGreat.E
open Go Go.RowKit
set_option linter.unusedVariables false
set_option linter.unusedSimpArgs false

theorem G_ghostS {P : Program} {N n : Nat} {s : Slots} {R : List Res} {Q : Exit → Slots → List Res → Prop} {c : Code} (t e k : Nat) (ht : E.get s t = .c (.sc (.slice none 0 0))) (hk : 0 < k)
  (h:GCode P N n c ((t,.c (.sl R.length 0 0 0))::s) (R++[Res.row e k []]) Q):GCode P N n c s R Q:=by
 intro w0 W0 R0 hl a w W hn htr
 obtain⟨W1,t1,s1,q1⟩:=hn.sep.row (w':=w) (e:=e) (k:=k) (rows:=[]) (cells:=[]) (v:=.slice none 0 0) rfl rfl rfl (Nat.le_refl _) (fun _ _=>rfl) hk (by simp) (World.ownsRow_nil w 0 e k) (fun b hb=>by cases hb) (by exact (Ow.nil:Ow w [] [] _))
 have hn1:=hn.next t1 s1
 have hv : AVR W1 (R ++ [Res.row e k []]) w (.c (.sl R.length 0 0 0)) (.slice none 0 0) := by
  have:=sl_whole (W':=W1) (R':=R++[.row e k []]) (w':=w) (i:=R.length) (n:=0) (e:=e) (k:=k) (rows:=[]) (v:=.slice none 0 0) (by simp) rfl q1 rfl s1
  exact this
 have hn2 : Now N ((t, .c (.sl R.length 0 0 0)) :: s) (R ++ [Res.row e k []]) a w W1 := by
  refine⟨hn1.size,hn1.defers,fun t'=>?_,hn1.sep⟩
  simp only [E.get]
  split
  ·rename_i e'
   subst e'
   have hx:=hn1.val t
   rw [ht] at hx
   have hx':AR W1 (R++[Res.row e k []]) w [.sc (.slice none 0 0)] [_]:=hx
   rw [AR.sc_inv hx']
   exact hv
  exact hn1.val t'
 exact h w0 W0 R0 hl a w W1 hn2 (htr.trans t1)
section
variable {P : Program} {N : Nat} {s s1 : Slots} {R R1 : List Res} {ops : Array Oper} {rest : List Nat} {K : Slots → List Res → Prop} {fuel : Nat} {listed listed' : Array Bool} {i : Nat} {o : Oper} {d : Nat} {y : AV}
theorem up_ (i : Nat) (h : nx true ops i s = some (o, d)) (hv : Pure P o s R y) (k : EAnyU P N ops fuel listed' ((d, y) :: s) R K) (hs : Region.noSelect ops = true := by kernel_rfl) (hf : Region.free .any ops listed i = true := by kernel_rfl) (hr : (Region.ready .any ops listed).contains i = true := by kernel_rfl) (hN : d < N := by decide) (hl : listed.setIfInBounds i true = listed' := by rfl) : EAnyU P N ops (fuel + 1) listed s R K := u_pure i (nx_p h).1 (nx_p h).2.1 (nx_p h).2.2 hv k hs hf hr hN hl
end

end Go.Proofs.YtlodlnbhjghjoaaGreat.E
