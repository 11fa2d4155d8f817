/- Words of the session's own, fiftieth part: told facts (pins), and rows within rows, taken apart and put together by them. -/
import Derived.Test.YtjbbjicochipeaaGreatF4
namespace Go.Proofs.YtjbbjicochipeaaGreat.E
open Go Go.RowKit
set_option linter.unusedVariables false
set_option linter.unusedSimpArgs false

/-! ### 1. Telling anew, where something is found out -/
def ShiftX {α : Type} (N : Nat) (s : Slots) (R : List Res) (s' : α → Slots) (R' : α → List Res) : Prop :=
 ∀ a w W,Now N s R a w W → ∃ x W',Now N (s' x) (R' x) a w W'∧Trans w W R w W' (R' x)

section
variable {P:Program} {N n:Nat} {s:Slots} {R:List Res} {Q:Exit→Slots→List Res→Prop} {K:Slots→List Res→Prop} {c:Code} {ops:Array Oper} {L:List Nat}

theorem ShiftX.E {α : Type} {s' : α → Slots} {R' : α → List Res} (h : ShiftX N s R s' R') (k : ∀ x, ECode P N c (s' x) (R' x) Q) : ECode P N c s R Q := by
 intro a w W hn
 obtain⟨x,W',h1,h2⟩:=h a w W hn
 exact wp_mono (k x a w W' h1) fun e a' w' hr=>hr.after h2
theorem ShiftX.G {α : Type} {s' : α → Slots} {R' : α → List Res} (h : ShiftX N s R s' R') (k : ∀ x, GCode P N n c (s' x) (R' x) Q) : GCode P N n c s R Q := by
 intro w0 W0 R0 h0 a w W hn ht
 obtain⟨x,W',h1,h2⟩:=h a w W hn
 exact k x w0 W0 R0 h0 a w W' h1 (ht.trans h2)
theorem ShiftX.X {α : Type} {s' : α → Slots} {R' : α → List Res} (h : ShiftX N s R s' R') (k : ∀ x, EOps P N ops L (s' x) (R' x) K) : EOps P N ops L s R K := by
 intro Q a w W hn hq
 obtain⟨x,W',h1,h2⟩:=h a w W hn
 exact k x Q a w W' h1 fun a' w' hr=>hq a' w' (hr.after h2)
end

theorem Now.retell {N : Nat} {s : Slots} {R : List Res} {a : Act} {w : World} {W : Wit} (h : Now N s R a w W) {t : Nat} {y : AV} (hy : AVR W R w y (a.tmps.getD t undef)) : Now N ((t, y) :: s) R a w W := by
 refine⟨h.size,h.defers,fun t'=>?_,h.sep⟩
 simp only [E.get]
 split
 ·rename_i e;subst e;exact hy
 exact h.val t'

/-! ### 2. Pins -/
theorem Sep.pin {w : World} {W : Wit} {R : List Res} {x : AC} {u : Value} (hs : Sep w W R) (h : AR W R w [x] [u]) : ∃ W', Trans w W R w W' (R ++ [.pin x u]) ∧ Sep w W' (R ++ [.pin x u]) := by
 have:=hs.more (w':=w) (r:=.pin x u) (v:=undef) (F:=fun _=>False) rfl rfl rfl (Nat.le_refl _) (fun _ _=>rfl) (fun b h=>h.elim) (fun e=>by cases e) (fun tr=>⟨fun _ h=>h,h.next tr⟩)
 exact⟨_,this.1,this.2⟩

section
variable {N:Nat} {s:Slots} {R:List Res}

/-- A cell's value is given a name; what was told of it is put down. -/
theorem X_pin (t : Nat) {x : AC} (ht : get s t = .c x) : ShiftX N s R (fun v : Value => (t, .c (.sc v)) :: s) (fun v => R ++ [.pin x v]) := by
 intro a w W hn
 have hv:=hn.val t
 rw [ht] at hv
 have hv':AR W R w [x] [a.tmps.getD t undef]:=hv
 obtain⟨W',t1,s1⟩:=hn.sep.pin hv'
 exact⟨_,W',(hn.next t1 s1).retell (AR.sc1 (hv'.one _ (List.mem_cons_self ..))),t1⟩

end

/-! ### 3. Rows within rows -/
theorem flat_set1 {α : Type} {k : Nat} : ∀ {rows : List (List α)} (_ : ∀ r ∈ rows, r.length = k) {j p : Nat} {row : List α}, rows[j]? = some row → p < k → ∀ x, (rows.set j (row.set p x)).flatten = rows.flatten.set (j * k + p) x
 | [],_,j,p,row,h,_,x=>by simp at h
 | r :: rows, hr, 0, p, row, h, hp, x => by
  obtain rfl:r=row:=by simpa using h
  have:=hr r (List.mem_cons_self ..)
  rw [List.set_cons_zero,List.flatten_cons,List.flatten_cons,Nat.zero_mul,Nat.zero_add,List.set_append_left _ _ (by omega)]
 | r :: rows, hr, j + 1, p, row, h, hp, x => by
  have h1:=hr r (List.mem_cons_self ..)
  have ih:=flat_set1 (k:=k) (fun r hr'=>hr r (List.mem_cons_of_mem _ hr')) (show rows[j]? = some row by simpa using h) hp x
  rw [List.set_cons_succ,List.flatten_cons,List.flatten_cons,ih,List.set_append_right _ _ (by rw [h1,Nat.add_mul];omega),h1,Nat.add_mul,Nat.one_mul]
  congr 2
  omega
theorem flat_at1 {α : Type} {k : Nat} : ∀ {rows : List (List α)} (_ : ∀ r ∈ rows, r.length = k) {j p : Nat} {row : List α}, rows[j]? = some row → p < k → rows.flatten[j * k + p]? = row[p]?
 | [],_,j,p,row,h,_=>by simp at h
 | r :: rows, hr, 0, p, row, h, hp => by
  obtain rfl:r=row:=by simpa using h
  have:=hr r (List.mem_cons_self ..)
  rw [List.flatten_cons,Nat.zero_mul,Nat.zero_add,List.getElem?_append_left (by omega)]
 | r :: rows, hr, j + 1, p, row, h, hp => by
  have h1:=hr r (List.mem_cons_self ..)
  have ih:=flat_at1 (k:=k) (fun r hr'=>hr r (List.mem_cons_of_mem _ hr')) (show rows[j]? = some row by simpa using h) hp
  rw [List.flatten_cons,List.getElem?_append_right (by rw [h1,Nat.add_mul];omega),h1,← ih]
  congr 1
  rw [Nat.add_mul]
  omega
theorem set_rows {α : Type} {k : Nat} {rows : List (List α)} (h : ∀ r ∈ rows, r.length = k) {j p : Nat} {row : List α} (hj : rows[j]? = some row) (x : α) : ∀ r ∈ rows.set j (row.set p x), r.length = k := by
 intro r hr
 rcases List.mem_or_eq_of_mem_set hr with h1|h1
 ·exact h r h1
 rw [h1,List.length_set];exact h row (List.mem_of_getElem? hj)

/-- A named value among cells of one's own becomes a slice of one's own. -/
theorem Ow.absorb {w : World} {ts : List T} {vs : List Value} {F : Nat → Prop} (h : Ow w ts vs F) : ∀ (ix : Nat) {v : Value} {inner : List (List T)} {e k : Nat} {cells : List Value} {G : Nat → Prop}, ts[ix]? = some (.sc v) → 0 < k → (∀ r ∈ inner, r.length = k) → w.ownsRow 0 e k v inner.length cells → Ow w inner.flatten cells G → (∀ b, v.ownBlock = some b → ¬ G b) → (∀ b, v.ownBlock = some b ∨ G b → ¬ F b) →
  ∃ H,Ow w (ts.set ix (.sl inner)) vs H ∧ ∀ b,H b↔F b∨v.ownBlock=some b∨G b:=by
 induction h with
 | nil=>intro ix v inner e k cells G hx;simp at hx
 | @sc v0 ts0 vs0 F0 h1 h2 ih =>
  intro ix v inner e k cells G hx hk hr ho hi hd hF
  cases ix with
  | zero =>
   obtain rfl:v0=v:=by simpa using hx
   refine⟨_,.sl e k hk hr ho hi h2 (fun b hb=>⟨hd b hb,hF b (.inl hb)⟩) (fun b hb=>hF b (.inr hb)),fun b=>?_⟩
   constructor
   ·rintro (h | h | h)
    ·exact .inr (.inl h)
    ·exact .inr (.inr h)
    exact .inl h
   rintro (h | h | h)
   ·exact .inr (.inr h)
   ·exact .inl h
   exact .inr (.inl h)
  | succ ix =>
   obtain⟨H,h3,h4⟩:=ih ix (by simpa using hx) hk hr ho hi hd hF
   exact⟨H,.sc h1 h3,h4⟩
 | @sl rows0 v0 cells0 ts0 vs0 F0 G0 e0 k0 h1 h2 h3 h4 h5 h6 h7 ih1 ih2 =>
  intro ix v inner e k cells G hx hk hr ho hi hd hF
  cases ix with
  | zero=>simp at hx
  | succ ix =>
   obtain⟨H,h8,h9⟩:=ih2 ix (by simpa using hx) hk hr ho hi hd (fun b hb hn=>hF b hb (.inr (.inr hn)))
   refine⟨_,.sl e0 k0 h1 h2 h3 h4 h8 (fun b hb=>⟨(h6 b hb).1,fun hn=>?_⟩) (fun b hb hn=>?_),fun b=>?_⟩
   ·rcases (h9 b).1 hn with hn | hn
    ·exact (h6 b hb).2 hn
    exact hF b hn (.inl hb)
   ·rcases (h9 b).1 hn with hn | hn
    ·exact h7 b hb hn
    exact hF b hn (.inr (.inl hb))
   rw [h9 b]
   constructor
   ·rintro (h | h | h | h)
    ·exact .inl (.inl h)
    ·exact .inl (.inr (.inl h))
    ·exact .inl (.inr (.inr h))
    exact .inr h
   rintro ((h | h | h) | h)
   ·exact .inl h
   ·exact .inr (.inl h)
   ·exact .inr (.inr (.inl h))
   exact .inr (.inr (.inr h))

theorem slAt_self {w : World} {hv v : Value} {e k n : Nat} {cells : List Value} (ho : w.ownsRow 0 e k hv n cells) (h : slAt hv v k 0 n) : v = hv := by
 obtain⟨a,n',c,e1,h1,h2⟩:=h
 rcases ho.2 with ⟨rfl,rfl⟩|⟨g,cap,cur,rfl,_,_,hn,_⟩
 ·cases e1
  rcases h2 with rfl|⟨_,h3,_⟩
  ·rfl
  omega
 cases e1
 rcases h2 with rfl|⟨_,h3,_⟩
 ·simp
 omega

/-- A row of one's own goes into a cell of another one, that holds its value. -/
theorem Sep.absorb {w : World} {W : Wit} {R : List Res} {i j p q m e k e' k' n : Nat} {rows inner : List (List T)} {cs : List T} {v : Value} (hs : Sep w W R) (hi : R[i]? = some (.row e k rows)) (hj : rows[j]? = some cs) (hp : cs[p]? = some (.sc v)) (hq : R[q]? = some (.pin (.sl m 0 n n) v)) (hm : R[m]? = some (.row e' k' inner)) (hn : inner.length = n) (him : i ≠ m) :
  ∃ W',Trans w W R w W' (((R.set i (.row e k (rows.set j (cs.set p (.sl inner))))).set m .gone).set q .gone)∧Sep w W' (((R.set i (.row e k (rows.set j (cs.set p (.sl inner))))).set m .gone).set q .gone):=by
 subst hn
 have hlt:∀ {z:Nat} {r:Res},R[z]? = some r→z<R.length:=fun {z r} h=>(List.getElem?_eq_some_iff.1 h).1
 have hil:=hlt hi
 have hml:=hlt hm
 have hql:=hlt hq
 have qi:q ≠ i:=fun h=>by subst h;rw [hi] at hq;cases hq
 have qm:q ≠ m:=fun h=>by subst h;rw [hm] at hq;cases hq
 generalize hR':((R.set i (.row e k (rows.set j (cs.set p (.sl inner))))).set m .gone).set q .gone=R'
 have r_i : R'[i]? = some (.row e k (rows.set j (cs.set p (.sl inner)))) := by
  rw [← hR',List.getElem?_set_ne qi,List.getElem?_set_ne (Ne.symm him),List.getElem?_set_self hil]
 have r_m : R'[m]? = some .gone := by
  rw [← hR',List.getElem?_set_ne qm,List.getElem?_set_self (by rw [List.length_set];exact hml)]
 have r_q : R'[q]? = some .gone := by
  rw [← hR',List.getElem?_set_self (by rw [List.length_set,List.length_set];exact hql)]
 have r_o : ∀ z, z ≠ i → z ≠ m → z ≠ q → R'[z]? = R[z]? := fun z h1 h2 h3 => by
  rw [← hR',List.getElem?_set_ne (Ne.symm h3),List.getElem?_set_ne (Ne.symm h2),List.getElem?_set_ne (Ne.symm h1)]
 have hlen:R'.length=R.length:=by rw [← hR',List.length_set,List.length_set,List.length_set]
 let W':Wit:=⟨W.hs,fun z b=>if z=i then W.fs i b∨W.fs m b else if z=m then False else W.fs z b⟩
 have hfs : ∀ z b, W'.fs z b → (z = i ∧ (W.fs i b ∨ W.fs m b)) ∨ (z ≠ i ∧ z ≠ m ∧ W.fs z b) := fun z b hb => by
  simp only [W'] at hb
  split at hb
  ·rename_i h;exact .inl ⟨h,hb⟩
  rename_i h
  split at hb
  ·exact hb.elim
  rename_i h2;exact .inr ⟨h,h2,hb⟩
 have tr : Trans w W R w W' R' := by
  refine⟨rfl,rfl,rfl,Nat.le_refl _,fun _ _=>rfl,fun z b hb=>?_,fun z=>?_⟩
  ·rcases hfs z b hb with ⟨_, h | h⟩ | ⟨_, _, h⟩
   ·exact .inl ⟨_,h⟩
   ·exact .inl ⟨_,h⟩
   exact .inl ⟨_,h⟩
  by_cases h1 : z = i
  ·subst h1;rw [hi,r_i];exact⟨rfl,rfl,by rw [List.length_set];exact Nat.le_refl _,fun _=>rfl⟩
  by_cases h2 : z = m
  ·subst h2;rw [hm,r_m];exact trivial
  by_cases h3 : z = q
  ·subst h3;rw [hq,r_q];exact trivial
  rw [r_o z h1 h2 h3];exact Goes.refl _ _
 obtain⟨f1,f2,cells,G,f3,f4,f5,f6⟩:=hs.res i _ hi
 obtain⟨g1,g2,cells',G',g3,g4,g5,g6⟩:=hs.res m _ hm
 have hpin:=hs.res q _ hq
 have hv : v = W.hs m := by
  have har:=hpin.2
  cases har with
  | sl _ _ h3 _=>exact slAt_self g3 ((h3 _ _ _ hm).2 rfl)
 have hpk : p < k := by
  have h1:=(List.getElem?_eq_some_iff.1 hp).1
  rwa [f2 cs (List.mem_of_getElem? hj)] at h1
 obtain ⟨H, h1, h2⟩ := f4.absorb (j * k + p) (v := v) (inner := inner) (e := e') (k := k') (cells := cells') (G := G') (by rw [flat_at1 f2 hj hpk]; exact hp) g1 g2 (by rw [hv]; exact g3) g4 (by rw [hv]; exact g5) (fun b hb hn => by
  rw [hv] at hb
  exact him (hs.apart i m b ((f6 b).2 (.inr hn)) ((g6 b).2 hb)))
 refine⟨W',tr,fun z r hr=>?_,fun z hz b hb=>?_,fun z hz b hb=>?_,fun z y b hb hc=>?_,fun z b hb=>?_⟩
 ·by_cases e1 : z = i
  ·subst e1
   rw [r_i] at hr
   obtain rfl:=Option.some.inj hr
   refine⟨f1,set_rows f2 hj _,cells,H,by rw [List.length_set];exact f3,by rw [flat_set1 f2 hj hpk];exact h1,fun b hb hn=>?_,fun b=>?_⟩
   ·rcases (h2 b).1 hn with h | h
    ·exact f5 b hb h
    rw [hv] at h
    exact him (hs.apart _ m b ((f6 b).2 (.inl hb)) ((g6 b).2 h))
   simp only [W', if_true]
   rw [h2 b,f6 b,g6 b,hv]
   constructor
   ·rintro ((h | h) | h)
    ·exact .inl h
    ·exact .inr (.inl h)
    exact .inr (.inr h)
   rintro (h | h | h)
   ·exact .inl (.inl h)
   ·exact .inl (.inr h)
   exact .inr h
  by_cases e2 : z = m
  ·subst e2;rw [r_m] at hr;obtain rfl:=Option.some.inj hr;exact trivial
  by_cases e3 : z = q
  ·subst e3;rw [r_q] at hr;obtain rfl:=Option.some.inj hr;exact trivial
  rw [r_o z e1 e2 e3] at hr
  have k2:W'.fs z=W.fs z:=by funext b;simp [W',e1,e2]
  rw [k2]
  exact (hs.res z r hr).next tr fun _ _=>rfl
 ·rw [hlen] at hz
  rcases hfs z b hb with ⟨h,_⟩|⟨_,_,h⟩
  ·omega
  exact hs.out z hz b h
 ·rcases hfs z b hb with ⟨h, _⟩ | ⟨e1, e2, h⟩
  ·subst h;rw [r_i] at hz;cases hz
  by_cases e3 : z = q
  ·subst e3;exact hpin.1 b h
  rw [r_o z e1 e2 e3] at hz;exact hs.gone z hz b h
 ·rcases hfs z b hb with ⟨e1, h⟩ | ⟨e1, e2, h⟩
  ·rcases hfs y b hc with ⟨e3, h'⟩ | ⟨e3, e4, h'⟩
   ·rw [e1,e3]
   rcases h with h | h
   ·exact absurd (hs.apart _ _ b h' h) e3
   exact absurd (hs.apart _ _ b h' h) e4
  rcases hfs y b hc with ⟨e3, h'⟩ | ⟨e3, e4, h'⟩
  ·rcases h' with h' | h'
   ·exact absurd (hs.apart _ _ b h h') e1
   exact absurd (hs.apart _ _ b h h') e2
  exact hs.apart _ _ b h h'
 rcases hfs z b hb with ⟨_, h | h⟩ | ⟨_, _, h⟩
 ·exact hs.lt _ b h
 ·exact hs.lt _ b h
 exact hs.lt _ b h

section
variable {N:Nat} {s:Slots} {R:List Res}
theorem X_absorb (i j p q m : Nat) {e k e' k' n : Nat} {rows inner : List (List T)} {cs : List T} {v : Value} {R' : List Res} (hi : R[i]? = some (.row e k rows)) (hj : rows[j]? = some cs) (hp : cs[p]? = some (.sc v)) (hq : R[q]? = some (.pin (.sl m 0 n n) v)) (hm : R[m]? = some (.row e' k' inner)) (hn : inner.length = n) (him : i ≠ m)
  (hR:((R.set i (.row e k (rows.set j (cs.set p (.sl inner))))).set m .gone).set q .gone=R'):ShiftX N s R (fun _:Unit=>s) (fun _=>R'):=by
 subst hR
 intro a w W hn'
 obtain⟨W',h1,h2⟩:=hn'.sep.absorb hi hj hp hq hm hn him
 exact⟨(),W',hn'.next h1 h2,h1⟩

end
end Go.Proofs.YtjbbjicochipeaaGreat.E
