/- Words of the session's own, ninth part: a callee that only reads, under any resources; a region that draws its order. -/
import Derived.Test.YtkaikajjhhnifaaE8
import Derived.OrdersHeld
namespace Go.Proofs.Ytkaikajjhhnifaa.E
open Go Go.RowKit
set_option linter.unusedVariables false
set_option linter.unusedSimpArgs false

/-! ### 1. Lending -/
def W0 : Wit := ⟨fun _ => undef, fun _ _ => False⟩

def lendC (R : List Res) : AC → AC
  | .sc (.slice none 0 0) => .ro []
  | .sl i off len tot => match R[i]? with
    | some (.row e k rows) => if rows.length = tot then .ro ((rows.drop off).take len) else .any
    | _ => .any
  | .bp _ _ => .any
  | .ep _ _ _ _ => .any
  | .fn f caps => match caps with | [] => .fn f [] | _ => .any
  | c => c

def lend (R : List Res) : AV → AV
  | .c x => .c (lendC R x)
  | .agg xs => .agg (xs.map (lendC R))
  | .tup _ => .any
  | .any => .any

theorem flatten_sub {α : Type} {k : Nat} : ∀ {rows : List (List α)} (_ : ∀ r ∈ rows, r.length = k) (off len : Nat), ((rows.drop off).take len).flatten = (rows.flatten.drop (off * k)).take (len * k)
  | [], _, off, len => by simp
  | r :: rows, hk, 0, 0 => by simp
  | r :: rows, hk, 0, len + 1 => by
    have h0 := hk r (List.mem_cons_self ..)
    have ih := flatten_sub (fun x hx => hk x (List.mem_cons_of_mem _ hx)) 0 len
    simp only [List.drop_zero, Nat.zero_mul] at ih ⊢
    rw [List.take_succ_cons, List.flatten_cons, List.flatten_cons, ih, show (len + 1) * k = r.length + len * k by rw [h0, Nat.add_mul]; omega, List.take_length_add_append]
  | r :: rows, hk, off + 1, len => by
    have h0 := hk r (List.mem_cons_self ..)
    have ih := flatten_sub (fun x hx => hk x (List.mem_cons_of_mem _ hx)) off len
    rw [List.drop_succ_cons, ih, List.flatten_cons, show (off + 1) * k = r.length + off * k by rw [h0, Nat.add_mul]; omega, List.drop_length_add_append]

theorem nil_ro (w : World) (O : Nat → Prop) : Rd w O [.sl []] [.slice none 0 0] :=
  Rd.sl (w := w) (O := O) (rows := []) (a := none) (c := 0) (inner := []) (ts := []) (vs := []) 1 ⟨Nat.le_refl _, Nat.zero_le _⟩ (by omega) (by simp) (fun h => by simp at h) .nil .nil

theorem W0_out {w : World} {W : Wit} {b : Nat} (h : W.out w b) : W0.out w b := ⟨h.1, fun _ h => h⟩

theorem AR.lend {W : Wit} {R : List Res} {w : World} (hs : Sep w W R) {cs : List AC} {vs : List Value} (h : AR W R w cs vs) : AR W0 [] w (cs.map (lendC R)) vs := by
  induction h with
  | nil => exact .nil
  | @sc v cs vs h1 _ ih =>
    simp only [List.map_cons, lendC]
    split
    case h_1 e =>
      obtain rfl : v = .slice none 0 0 := by cases e; rfl
      exact .ro (nil_ro _ _) ih
    case h_6 => exact .sc h1 ih
    all_goals (rename_i e; cases e)
  | any h1 _ ih => exact .any h1 ih
  | ro h1 _ ih => exact .ro (h1.mono fun b hb => ⟨W0_out hb, rfl⟩) ih
  | rp b o inner h1 h2 h3 h4 _ ih => exact .rp b o inner h1 (W0_out h2) (h3.mono fun b hb => ⟨W0_out hb, rfl⟩) h4 ih
  | bp h1 _ _ _ ih => exact .any h1 ih
  | ep h1 _ _ _ ih => exact .any h1 ih
  | @fn f caps xs cs vs h1 _ ih1 ih2 =>
    cases caps with
    | nil =>
      cases h1
      exact AR.fn (xs := []) .nil ih2
    | cons c cs' => exact .any rfl ih2
  | @sl i off len tot v cs vs h1 h2 h3 _ ih =>
    simp only [List.map_cons, lendC]
    split
    · rename_i e k rows hR
      split
      · rename_i ht
        refine .ro ?_ ih
        obtain ⟨a, n, c, e1, e0, e2⟩ := (h3 _ _ _ hR).2 ht
        obtain ⟨f1, f2, cells, G, f3, f4, f5, f6⟩ := hs.res i _ hR
        obtain ⟨a', c', g1, g2, gm, g0, g3⟩ := ownsRow_reads f3
        rw [e1] at g1
        obtain ⟨rfl, rfl, rfl⟩ : a = a' ∧ n = rows.length ∧ c = c' := by cases g1; exact ⟨rfl, rfl, rfl⟩
        have hsub : ((rows.drop off).take len).length = len := by rw [List.length_take, List.length_drop]; omega
        have hrd : Rd w (W0.out w) rows.flatten cells := f4.rd fun b hb => ⟨f4.lt b hb, fun _ h => h⟩
        have hrd2 : Rd w (W0.out w) ((rows.drop off).take len).flatten ((cells.drop (off * k)).take (len * k)) := by
          rw [flatten_sub f2]; exact (hrd.drop _).take _
        have hk2 : ∀ r ∈ (rows.drop off).take len, r.length = k := fun r hr => f2 r (List.mem_of_mem_drop (List.mem_of_mem_take hr))
        rcases e2 with e2 | ⟨rfl, h0, a2, c2, e2, e3⟩
        · subst e2
          have := Rd.sl (w := w) (O := W0.out w) (rows := (rows.drop off).take len) (a := a.map fun b => ⟨b.block, off * k, none⟩) (c := c - off) (inner := (cells.drop (off * k)).take (len * k)) (ts := []) (vs := []) k ⟨by omega, by omega⟩ f1 hk2 (fun hp => by
            obtain ⟨b, rfl, hb, hc⟩ := g3 (by omega)
            refine ⟨b, off * k, rfl, ⟨(f3.lt b hb).2, fun _ h => h⟩, fun j u hj => ?_⟩
            rw [List.getElem?_take] at hj
            split at hj
            · rw [List.getElem?_drop] at hj
              have := hc _ u hj
              rwa [Nat.zero_add] at this
            · cases hj) hrd2 .nil
          rwa [hsub] at this
        · subst e2
          have := Rd.sl (w := w) (O := W0.out w) (rows := (rows.drop off).take 0) (a := a2) (c := c2) (inner := []) (ts := []) (vs := []) k ⟨by simp, e3⟩ f1 (by simp) (fun hp => by simp at hp) (by simpa using Rd.nil) .nil
          simpa using this
      · exact .any h1 ih
    · exact .any h1 ih

theorem AVR.lend {W : Wit} {R : List Res} {w : World} (hs : Sep w W R) {x : AV} {v : Value} (h : AVR W R w x v) : AVR W0 [] w (E.lend R x) v := by
  cases x with
  | c x => exact AR.lend hs (show AR W R w [x] [v] from h)
  | agg xs =>
    obtain ⟨vs, e, h⟩ := h
    exact ⟨vs, e, h.lend hs⟩
  | tup xs => trivial
  | any => trivial

theorem Sep.none (w : World) : Sep w W0 [] := ⟨fun i r h => by simp at h, fun _ _ _ h => h, fun i h => by simp at h, fun _ _ _ h => h.elim, fun _ _ h => h.elim⟩

/-! ### 2. Resources that a callee has made, behind one's own -/
def AC.sh (n : Nat) : AC → AC
  | .sl i off len tot => .sl (n + i) off len tot
  | .bp i off => .bp (n + i) off
  | .ep i j off tot => .ep (n + i) j off tot
  | .fn f caps => .fn f (shs n caps)
  | c => c
where shs (n : Nat) : List AC → List AC
  | [] => []
  | c :: cs => c.sh n :: shs n cs

/-- Nothing that is read alone. -/
def AC.own : AC → Bool
  | .ro _ => false
  | .rp _ => false
  | .fn _ caps => owns caps
  | _ => true
where owns : List AC → Bool
  | [] => true
  | c :: cs => c.own && owns cs

def AV.sh (n : Nat) : AV → AV
  | .c x => .c (x.sh n)
  | .agg xs => .agg (AC.sh.shs n xs)
  | .tup xs => .tup (xs.map fun x => (x.1, AC.sh.shs n x.2))
  | .any => .any

def AV.own : AV → Bool
  | .c x => x.own
  | .agg xs => AC.own.owns xs
  | .tup xs => xs.all fun x => AC.own.owns x.2
  | .any => true

def Res.sh (n : Nat) : Res → Res
  | .box cs => .box (AC.sh.shs n cs)
  | r => r

def Res.own : Res → Bool
  | .box cs => AC.own.owns cs
  | _ => true

def Wit.join (n : Nat) (W V : Wit) : Wit := ⟨fun i => if i < n then W.hs i else V.hs (i - n), fun i b => if i < n then W.fs i b else V.fs (i - n) b⟩

section
variable {w : World} {W V : Wit} {R S : List Res}

theorem join_at {i : Nat} {r : Res} (h : (S.map (Res.sh R.length))[i]? = some r) : (R ++ S.map (Res.sh R.length))[R.length + i]? = some r := by
  rw [List.getElem?_append_right (by omega), show R.length + i - R.length = i by omega]; exact h

theorem join_back {i : Nat} {r : Res} (h : (R ++ S.map (Res.sh R.length))[R.length + i]? = some r) : ∃ r0, S[i]? = some r0 ∧ r = r0.sh R.length := by
  rw [List.getElem?_append_right (by omega), show R.length + i - R.length = i by omega, List.getElem?_map] at h
  cases hs : S[i]? with
  | none => rw [hs] at h; cases h
  | some r0 => rw [hs] at h; exact ⟨r0, rfl, (Option.some.inj h).symm⟩

theorem Res.sh_row {r : Res} {n e k : Nat} {rows : List (List T)} (h : Res.row e k rows = r.sh n) : r = .row e k rows := by cases r <;> first | exact h.symm | cases h
theorem Res.sh_box {r : Res} {n : Nat} {xs : List AC} (h : Res.box xs = r.sh n) : ∃ ys, r = .box ys ∧ xs = AC.sh.shs n ys := by
  cases r with
  | box ys => exact ⟨ys, rfl, by cases h; rfl⟩
  | row e k rows => cases h
  | gone => cases h

theorem AR.sh {cs : List AC} {vs : List Value} (h : AR V S w cs vs) : AC.own.owns cs = true → AR (Wit.join R.length W V) (R ++ S.map (Res.sh R.length)) w (AC.sh.shs R.length cs) vs := by
  have hh : ∀ i, (Wit.join R.length W V).hs (R.length + i) = V.hs i := fun i => by
    simp only [Wit.join, show ¬ R.length + i < R.length by omega, if_false, show R.length + i - R.length = i by omega]
  have hl : ∀ i, i < S.length → R.length + i < (R ++ S.map (Res.sh R.length)).length := fun i hi => by simp; omega
  induction h with
  | nil => intro _; exact .nil
  | sc h1 _ ih => intro ho; exact .sc h1 (ih (by simpa [AC.own.owns, AC.own] using ho))
  | any h1 _ ih => intro ho; exact .any h1 (ih (by simpa [AC.own.owns, AC.own] using ho))
  | ro h1 _ ih => intro ho; simp [AC.own.owns, AC.own] at ho
  | rp b o inner h1 h2 h3 h4 _ ih => intro ho; simp [AC.own.owns, AC.own] at ho
  | fn _ _ ih1 ih2 =>
    intro ho
    simp only [AC.own.owns, AC.own, Bool.and_eq_true] at ho
    exact .fn (ih1 ho.1) (ih2 ho.2)
  | sl h1 h2 h3 _ ih =>
    intro ho
    refine .sl h1 (hl _ h2) (fun e k rows hr => ?_) (ih (by simpa [AC.own.owns, AC.own] using ho))
    obtain ⟨r0, e1, e2⟩ := join_back hr
    rw [Res.sh_row e2] at e1
    rw [hh]; exact h3 e k rows e1
  | ep h1 h2 h3 _ ih =>
    intro ho
    refine .ep h1 (hl _ h2) (fun e k rows hr => ?_) (ih (by simpa [AC.own.owns, AC.own] using ho))
    obtain ⟨r0, e1, e2⟩ := join_back hr
    rw [Res.sh_row e2] at e1
    rw [hh]; exact h3 e k rows e1
  | bp h1 h2 h3 _ ih =>
    intro ho
    refine .bp h1 (hl _ h2) (fun xs hr => ?_) (ih (by simpa [AC.own.owns, AC.own] using ho))
    obtain ⟨r0, e1, e2⟩ := join_back hr
    obtain ⟨ys, rfl, _⟩ := Res.sh_box e2
    rw [hh]; exact h3 ys e1

theorem AVR.sh {x : AV} {v : Value} (h : AVR V S w x v) (ho : x.own = true) : AVR (Wit.join R.length W V) (R ++ S.map (Res.sh R.length)) w (x.sh R.length) v := by
  cases x with
  | c x => exact AR.sh (show AR V S w [x] [v] from h) (by simpa [AC.own.owns, AV.own] using ho)
  | agg xs =>
    obtain ⟨vs, e, h⟩ := h
    exact ⟨vs, e, h.sh ho⟩
  | tup xs =>
    obtain ⟨us, e, hl, h⟩ := h
    refine ⟨us, e, by simp [hl], fun i y u h1 h2 => ?_⟩
    rw [List.getElem?_map] at h1
    cases hy : xs[i]? with
    | none => rw [hy] at h1; cases h1
    | some z =>
      rw [hy] at h1
      obtain rfl := Option.some.inj h1
      obtain ⟨vs, e1, e2⟩ := h i z u hy h2
      have hz : AC.own.owns z.2 = true := by
        simp only [AV.own, List.all_eq_true] at ho
        exact ho z (List.mem_of_getElem? hy)
      exact ⟨vs, e1, e2.sh hz⟩
  | any => trivial
end

/-- A callee that was shown over no resources goes under any: what stands is not turned. -/
theorem EFn.frame {P : Program} {f : FuncId} {args : List AV} {R : List Res} {Q : AV → List Res → Prop} (h : EFn P f (args.map (E.lend R)) [] Q) (hq : ∀ r S, Q r S → r.own = true ∧ S.all Res.own = true) :
    ∀ w W vals, AVs W R w args vals → Sep w W R → Calls P f vals.toArray w fun e w' => ∃ r S W', Q r S ∧ (∃ v, e = .returned v ∧ AVR W' (R ++ S.map (Res.sh R.length)) w' (r.sh R.length) v) ∧ Sep w' W' (R ++ S.map (Res.sh R.length)) ∧ Trans w W R w' W' (R ++ S.map (Res.sh R.length)) ∧ Below w.heap.size w w' := by
  intro w W vals hv hs
  have hv0 : AVs W0 [] w (args.map (E.lend R)) vals := by
    refine ⟨by simp [hv.1], fun i x v hx hu => ?_⟩
    rw [List.getElem?_map] at hx
    cases hy : args[i]? with
    | none => rw [hy] at hx; cases hx
    | some y =>
      rw [hy] at hx
      obtain rfl := Option.some.inj hx
      exact (hv.2 i y v hy hu).lend hs
  refine (h w W0 vals hv0 (Sep.none w)).mono ?_
  rintro e w' ⟨r, S, V, k1, ⟨v, rfl, k2⟩, k3, k4⟩
  obtain ⟨q1, q2⟩ := hq r S k1
  have hb : Below w.heap.size w w' := ⟨k4.os, k4.tape, k4.output, k4.size, fun b hb => k4.frame b ⟨hb, fun _ h => h⟩⟩
  have hnew : ∀ i b, V.fs i b → w.heap.size ≤ b := fun i b hi => by
    rcases k4.own i b hi with ⟨j, hj⟩ | hj
    · exact hj.elim
    · exact hj
  have hlt : ∀ i b, V.fs i b → i < S.length := fun i b hi => by
    rcases Nat.lt_or_ge i S.length with h' | h'
    · exact h'
    · exact absurd hi (k3.out i h' b)
  have tr : Trans w W R w' (Wit.join R.length W V) (R ++ S.map (Res.sh R.length)) := by
    refine ⟨k4.os, k4.tape, k4.output, k4.size, fun b hb' => hb.block b hb'.1, fun i b hi => ?_, fun i => ?_⟩
    · simp only [Wit.join] at hi
      split at hi
      · exact .inl ⟨i, hi⟩
      · exact .inr (hnew _ b hi)
    · rcases Nat.lt_or_ge i R.length with hi | hi
      · rw [List.getElem?_append_left hi]
        have : (Wit.join R.length W V).hs i = W.hs i := by simp [Wit.join, hi]
        rw [this]; exact Goes.refl _ _
      · rw [List.getElem?_eq_none hi]; exact trivial
  refine ⟨r, S, Wit.join R.length W V, k1, ⟨v, rfl, k2.sh q1⟩, ?_, tr, hb⟩
  refine ⟨fun i r hr => ?_, fun i hi b hb' => ?_, fun i hi b hb' => ?_, fun i j b hi hj => ?_, fun i b hi => ?_⟩
  · rcases Nat.lt_or_ge i R.length with hi | hi
    · rw [List.getElem?_append_left hi] at hr
      have e1 : (Wit.join R.length W V).hs i = W.hs i := by simp [Wit.join, hi]
      have e2 : (Wit.join R.length W V).fs i = W.fs i := by funext b; simp [Wit.join, hi]
      rw [e1, e2]
      exact (hs.res i r hr).next tr fun b hb' => hb.block b (hs.lt i b hb')
    · have hr' := hr
      rw [show i = R.length + (i - R.length) by omega] at hr'
      obtain ⟨r0, e1, rfl⟩ := join_back hr'
      have e2 : (Wit.join R.length W V).hs i = V.hs (i - R.length) := by simp [Wit.join, show ¬ i < R.length by omega]
      have e3 : (Wit.join R.length W V).fs i = V.fs (i - R.length) := by funext b; simp [Wit.join, show ¬ i < R.length by omega]
      rw [e2, e3]
      have hr0 := k3.res _ _ e1
      cases r0 with
      | box cs =>
        obtain ⟨b, arr, e, f1, f2, f3, f4⟩ := hr0
        have hown : Res.own (.box cs) = true := List.all_eq_true.1 q2 _ (List.mem_of_getElem? e1)
        exact ⟨b, arr, e, f1, f2, f3, f4.sh hown⟩
      | row e k rows => exact hr0
      | gone => trivial
  · simp only [Wit.join] at hb'
    simp only [List.length_append, List.length_map] at hi
    rw [if_neg (by omega)] at hb'
    exact k3.out _ (by omega) b hb'
  · simp only [Wit.join] at hb'
    rcases Nat.lt_or_ge i R.length with h' | h'
    · rw [List.getElem?_append_left h'] at hi
      rw [if_pos h'] at hb'
      exact hs.gone i hi b hb'
    · rw [if_neg (by omega)] at hb'
      rw [show i = R.length + (i - R.length) by omega] at hi
      obtain ⟨r0, e1, e2⟩ := join_back hi
      have : r0 = .gone := by cases r0 <;> first | rfl | cases e2
      rw [this] at e1
      exact k3.gone _ e1 b hb'
  · simp only [Wit.join] at hi hj
    split at hi <;> split at hj
    · exact hs.apart i j b hi hj
    · exact absurd (hs.lt i b hi) (by have := hnew _ b hj; omega)
    · exact absurd (hs.lt j b hj) (by have := hnew _ b hi; omega)
    · have := k3.apart _ _ b hi hj; omega
  · simp only [Wit.join] at hi
    split at hi
    · exact Nat.lt_of_lt_of_le (hs.lt i b hi) k4.size
    · exact k3.lt _ b hi

/-! ### 3. A region that draws its order -/
/-- From here on, whatever comes up next: S is 'what stood at the region's start stands'. -/
def EAny (P : Program) (N : Nat) (ops : Array Oper) (fresh : Bool) (fuel : Nat) (listed : Array Bool) (s : Slots) (R : List Res) (K : Slots → List Res → Prop) : Prop :=
  ∀ (G : Act → World → Prop) (w1 : World) a w W, Now N s R a w W → Below w1.heap.size w1 w → (fresh = true → w.heap = w1.heap) → (∀ a' w', Reach N w W R K a' w' → G a' w') →
    wpAnyH P .any ops (fun ex a' w' => ex = .normal ∧ G a' w') (fun w' => Below w1.heap.size w1 w') fuel listed a w

section
variable {P : Program} {N : Nat} {ops : Array Oper} {s : Slots} {R : List Res} {K : Slots → List Res → Prop} {fuel : Nat} {listed listed' : Array Bool} {fr : Bool}

theorem Below.draw (w : World) : Below w.heap.size w { w with drawn := w.drawn + 1 } := ⟨rfl, rfl, rfl, Nat.le_refl _, fun _ _ => rfl⟩

theorem Now.draw {a : Act} {w : World} {W : Wit} (hn : Now N s R a w W) : Now N s R a { w with drawn := w.drawn + 1 } W ∧ Trans w W R { w with drawn := w.drawn + 1 } W R := by
  have tr : Trans w W R { w with drawn := w.drawn + 1 } W R := ⟨rfl, rfl, rfl, Nat.le_refl _, fun _ _ => rfl, fun i b h => .inl ⟨i, h⟩, fun i => Goes.refl _ _⟩
  exact ⟨hn.next tr ⟨fun i r hr => (hn.sep.res i r hr).next tr fun _ _ => rfl, hn.sep.out, hn.sep.gone, hn.sep.apart, hn.sep.lt⟩, tr⟩

theorem E_draw {id : Nat} {Q : Exit → Slots → List Res → Prop} (hm : P.follows .mixedOrders = true) (h : EAny P N ops true ops.size (Array.replicate ops.size false) s R (Q .normal)) : ECode P N (.region id ops true) s R Q := by
  intro a w W hn
  obtain ⟨h1, h2⟩ := hn.draw
  have := h (fun a' w' => Reach N w W R (Q .normal) a' w') { w with drawn := w.drawn + 1 } a _ W h1 (Below.refl _ _) (fun _ => rfl) fun a' w' hr => hr.after h2
  refine wp_mono (wp_region_held (S := fun w' => Below w.heap.size { w with drawn := w.drawn + 1 } w') hm this) ?_
  rintro e a' w' ⟨rfl, hr⟩
  exact hr

theorem EAny_done (hr : Region.ready .any ops listed = []) (h : K s R) : EAny P N ops fr fuel listed s R K :=
  fun G w1 a w W hn hb _ hq => wpAnyH_done hr ⟨rfl, hq a w ⟨s, R, W, h, hn, .refl ..⟩⟩ fuel

/-- An operation that only reads what stood at the start, or nothing, is taken at once. -/
theorem EAny_light {i d : Nat} {o : Oper} {y : AV} (hi : ops[i]? = some o) (hw : want ops o s = some true) (hs : Region.noSelect ops = true) (hf : Region.free .any ops listed i = true) (hr : (Region.ready .any ops listed).contains i = true)
    (hd : o.dst = some d) (hN : d < N) (hv : Light P o s R y) (hl : listed.setIfInBounds i true = listed') (h : EAny P N ops true fuel listed' ((d, y) :: s) R K) : EAny P N ops true (fuel + 1) listed s R K := by
  subst hl
  intro G w1 a w W hn hb hfr hq
  obtain ⟨v, hy, hrun⟩ := hv N a w W hn
  refine wpAnyH_take hi hs hf hr (fun c a' w' hp => by cases hp.1) (v := v) (.inl ⟨want_real hn hw, fun w' hb' => hrun w' ?_⟩) hb ?_
  · have e := hfr rfl
    refine ⟨hb'.os.trans hb.os.symm, hb'.tape.trans hb.tape.symm, hb'.output.trans hb.output.symm, by rw [e]; exact hb'.size, fun k hk => ?_⟩
    rw [e]; exact hb'.block k (by rw [← e]; exact hk)
  · rw [hd]
    exact h G w1 _ w W (hn.put hN hy) hb hfr hq

/-- An operation that looks at no memory is taken at once, later too. -/
theorem EAny_pure {i d : Nat} {o : Oper} {y : AV} (hi : ops[i]? = some o) (hw : want ops o s = some true) (hs : Region.noSelect ops = true) (hf : Region.free .any ops listed i = true) (hr : (Region.ready .any ops listed).contains i = true)
    (hd : o.dst = some d) (hN : d < N) (hv : Pure P o s R y) (hl : listed.setIfInBounds i true = listed') (h : EAny P N ops fr fuel listed' ((d, y) :: s) R K) : EAny P N ops fr (fuel + 1) listed s R K := by
  subst hl
  intro G w1 a w W hn hb hfr hq
  obtain ⟨v, hy, hrun⟩ := hv N a w W hn
  refine wpAnyH_take hi hs hf hr (fun c a' w' hp => by cases hp.1) (v := v) (.inl ⟨want_real hn hw, fun w' _ => hrun w'⟩) hb ?_
  rw [hd]
  exact h G w1 _ w W (hn.put hN hy) hb hfr hq

/-- An operation that is not carried out. -/
theorem EAny_skip {i : Nat} {o : Oper} (hi : ops[i]? = some o) (hw : want ops o s = some false) (hs : Region.noSelect ops = true) (hf : Region.free .any ops listed i = true) (hr : (Region.ready .any ops listed).contains i = true)
    (hd : ∀ d, o.dst = some d → d < N) (hl : listed.setIfInBounds i true = listed') (h : EAny P N ops fr fuel listed' (fill s o.dst) R K) : EAny P N ops fr (fuel + 1) listed s R K := by
  subst hl
  intro G w1 a w W hn hb hfr hq
  refine wpAnyH_take hi hs hf hr (fun c a' w' hp => by cases hp.1) (v := undef) (.inr ⟨want_real hn hw, rfl⟩) hb ?_
  refine h G w1 _ w W ?_ hb hfr hq
  cases hdd : o.dst with
  | none => exact hn
  | some d => exact hn.put (hd d hdd) (AVR.undef ..)

/-- An operation that may make memory and turns nothing that stood. -/
def Heavy (P : Program) (N : Nat) (o : Oper) (s : Slots) (R : List Res) (K : Slots → List Res → Prop) : Prop :=
  ∀ Q a w W, Now N s R a w W → o.wp P a w (fun a' w' => Below w.heap.size w w' ∧ Reach N w W R K a' w') Q

theorem Heavy.op {o : Oper} (h : Heavy P N o s R K) : EOp P N o s R K := fun Q a w W hn => Oper.wp_mono (fun a' w' h' => h'.2) (h Q a w W hn)

/-- The one operation that may come up comes up. -/
theorem EAny_heavy {i : Nat} {o : Oper} (hi : ops[i]? = some o) (hw : want ops o s = some true) (hr : Region.ready .any ops listed = [i]) (hl : listed.setIfInBounds i true = listed')
    (h : Heavy P N o s R fun s' R' => EAny P N ops false fuel listed' s' R' K) : EAny P N ops fr (fuel + 1) listed s R K := by
  subst hl
  intro G w1 a w W hn hb hfr hq
  refine wpAnyH_all hr (by simp) fun j hj => ?_
  obtain rfl : j = i := by simpa using hj
  unfold wpOp
  simp only [hi, want_real hn hw, if_true]
  refine .inl (Oper.wp_mono (fun a' w' hh => ?_) (h _ a w W hn))
  obtain ⟨h1, s', R', W', h2, h3, h4⟩ := hh
  have hb' : Below w1.heap.size w1 w' := hb.trans (h1.mono hb.size)
  exact ⟨hb', h2 G w1 a' w' W' h3 hb' (fun e => by cases e) fun a'' w'' hr' => hq a'' w'' (hr'.after h4)⟩

/-- A callee that only reads. -/
theorem H_pcall {o : Oper} {x : Operand} {args : Array Operand} {ats : Array TypeId} {f : FuncId} {Q : AV → List Res → Prop} (ho : o.op = .call { callee := .value x, args := args, argTypes := ats }) (hd : ∀ d, o.dst = some d → d < N) (hx : ev s x = .c (.fn f [])) (hf : callable P f = true)
    (h : EFn P f ((args.toList.map (ev s)).map (E.lend R)) [] Q) (hq : ∀ r S, Q r S → r.own = true ∧ S.all Res.own = true)
    (hk : ∀ r S, Q r S → K (fill' s o.dst (r.sh R.length)) (R ++ S.map (Res.sh R.length))) : Heavy P N o s R K := by
  intro Q' a w W hn
  have hv := hn.ev x
  rw [hx] at hv
  obtain ⟨xs, e, h1⟩ := AR.fn_inv hv
  obtain rfl : xs = [] := by cases h1; rfl
  unfold Oper.wp
  have hr : (execOp a.eval o).run P w = .ok (.enter f (args.map a.eval)) w := by
    simp only [execOp, ho, resolve, e, Deferred.ofValue, Sem.run_bind, Sem.run_pure, Result.andThen_ok, invoke]
    simpa using run_callFunc hf _ w
  rw [hr, Oper.upon_enter]
  have hav : AVs W R w (args.toList.map (ev s)) (args.toList.map a.eval) := by
    refine ⟨by simp, fun i y v hy hu => ?_⟩
    rw [List.getElem?_map] at hy hu
    cases hi : args.toList[i]? with
    | none => rw [hi] at hy; cases hy
    | some z =>
      rw [hi] at hy hu
      obtain rfl : ev s z = y := by simpa using hy
      obtain rfl : a.eval z = v := by simpa using hu
      exact hn.ev z
  have hc := EFn.frame h hq w W _ hav hn.sep
  have hh : (args.toList.map a.eval).toArray = args.map a.eval := by
    apply Array.ext'; simp
  rw [hh] at hc
  refine hc.mono ?_
  rintro e' w' ⟨r, S, W', k1, ⟨v, rfl, k2⟩, k3, k4, k5⟩
  exact ⟨k5, _, _, W', hk r S k1, (hn.next k4 k3).fill' hd k2, k4⟩

end
end Go.Proofs.Ytkaikajjhhnifaa.E
