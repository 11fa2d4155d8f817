/- Words of the session's own, seventh part: new variables, calls, what a function comes to. -/
import Derived.Test.YtkaikajjhhnifaaE6
namespace Go.Proofs.Ytkaikajjhhnifaa.E
open Go Go.RowKit
set_option linter.unusedVariables false
set_option linter.unusedSimpArgs false

/-! ### 1. New resources -/
def Wit.new (W : Wit) (n : Nat) (v : Value) (F : Nat → Prop) : Wit :=
  ⟨fun j => if j = n then v else W.hs j, fun j => if j = n then F else W.fs j⟩

/-- A new resource at the end, over blocks that are new. -/
theorem Sep.more {w w' : World} {W : Wit} {R : List Res} {r : Res} {v : Value} {F : Nat → Prop} (hs : Sep w W R) (ho : w'.os = w.os) (htp : w'.tape = w.tape) (hout : w'.output = w.output) (hsz : w.heap.size ≤ w'.heap.size)
    (hold : ∀ b, b < w.heap.size → w'.heap[b]? = w.heap[b]?) (hF : ∀ b, F b → w.heap.size ≤ b ∧ b < w'.heap.size) (hn : r = .gone → ∀ b, ¬ F b)
    (hres : Trans w W R w' (W.new R.length v F) (R ++ [r]) → ResRel w' (W.new R.length v F) (R ++ [r]) v F r) :
    Trans w W R w' (W.new R.length v F) (R ++ [r]) ∧ Sep w' (W.new R.length v F) (R ++ [r]) := by
  have tr : Trans w W R w' (W.new R.length v F) (R ++ [r]) := by
    refine ⟨ho, htp, hout, hsz, fun b hb => hold b hb.1, fun j b hj => ?_, fun j => ?_⟩
    · unfold Wit.new at hj
      simp only at hj
      split at hj
      · exact .inr (hF b hj).1
      · exact .inl ⟨j, hj⟩
    · rcases Nat.lt_or_ge j R.length with h | h
      · rw [List.getElem?_append_left h]
        have : (W.new R.length v F).hs j = W.hs j := by simp [Wit.new, Nat.ne_of_lt h]
        rw [this]; exact Goes.refl _ _
      · rw [List.getElem?_eq_none h]; exact trivial
  refine ⟨tr, hs.step tr R.length (fun j h1 h2 => by simp; omega) (fun j _ h2 => List.getElem?_append_left h2) (fun j h1 => by simp [Wit.new, h1]) (fun j h1 b => by simp [Wit.new, h1]) (fun j _ b hb => hold b (hs.lt j b hb)) (fun q hq => ?_) (fun b hb => ?_) (fun b hb => ?_) (fun h => by simp at h; omega) (fun h => ?_)⟩
  · obtain rfl : r = q := by simpa using hq
    have := hres tr
    simpa [Wit.new] using this
  · exact .inr (hF b (by simpa [Wit.new] using hb)).1
  · exact (hF b (by simpa [Wit.new] using hb)).2
  · have : r = .gone := by simpa using h
    intro b
    simpa [Wit.new] using hn this b

theorem heap_alloc_self (w : World) (o : Obj) : (w.alloc o).heap[w.heap.size]? = some o := by show (w.heap.push o)[w.heap.size]? = some o; simp
theorem heap_alloc_lt (w : World) (o : Obj) (b : Nat) (h : b < w.heap.size) : (w.alloc o).heap[b]? = w.heap[b]? := Below.heap_alloc w o b h

/-- A new variable. -/
theorem Sep.box {w : World} {W : Wit} {R : List Res} (hs : Sep w W R) {cs : List AC} {arr : Array Value} {e : TypeId} (hc : AR W R w cs arr.toList) :
    ∃ W', Trans w W R (w.alloc (.cells arr e)) W' (R ++ [.box cs]) ∧ Sep (w.alloc (.cells arr e)) W' (R ++ [.box cs]) ∧ W'.hs R.length = .pointer (some ⟨w.heap.size, 0, none⟩) := by
  refine ⟨W.new R.length (.pointer (some ⟨w.heap.size, 0, none⟩)) (fun b => b = w.heap.size), ?_⟩
  obtain ⟨h1, h2⟩ := hs.more (w' := w.alloc (.cells arr e)) (r := .box cs) (v := .pointer (some ⟨w.heap.size, 0, none⟩)) (F := fun b => b = w.heap.size) rfl rfl rfl (by simp) (heap_alloc_lt w _)
    (fun b hb => by subst hb; simp) (fun h => by cases h) (fun tr => ⟨w.heap.size, arr, e, rfl, fun _ => Iff.rfl, heap_alloc_self .., hc.next tr⟩)
  exact ⟨h1, h2, by simp [Wit.new]⟩

/-- The cells of a type's zero value. -/
def zav (P : Program) (t : TypeId) : Option (List AC) :=
  match (P.info? t).bind (·.zero) with
  | some v => if v.cells.toList.all (·.oneCell') then some (v.cells.toList.map .sc) else none
  | none => none

theorem AR.scs {W : Wit} {R : List Res} {w : World} : ∀ {vs : List Value}, vs.all (·.oneCell') = true → AR W R w (vs.map .sc) vs
  | [], _ => .nil
  | v :: vs, h => by
    simp only [List.all_cons, Bool.and_eq_true] at h
    exact .sc h.1 (AR.scs h.2)

theorem zav_run {P : Program} {t : TypeId} {zs : List AC} (h : zav P t = some zs) (w : World) : ∃ v, (zeroValue t).run P w = .ok v w ∧ ∀ (W : Wit) (R : List Res), AR W R w zs v.cells.toList := by
  unfold zav at h
  split at h
  · rename_i v hv
    split at h
    · rename_i ha
      obtain rfl := Option.some.inj h
      cases hi : P.info? t with
      | none => rw [hi] at hv; cases hv
      | some i =>
        rw [hi] at hv
        refine ⟨v, ?_, fun W R => AR.scs ha⟩
        simp only [Option.bind_some] at hv
        simp [zeroValue, typeInfo, hi, hv]
    · cases h
  · cases h

section
variable {P : Program} {N : Nat} {s : Slots} {R : List Res} {K : Slots → List Res → Prop}

theorem bp_new {W' : Wit} {R : List Res} {w' : World} {cs : List AC} {b : Nat} (h : W'.hs R.length = .pointer (some ⟨b, 0, none⟩)) : AVR W' (R ++ [.box cs]) w' (.c (.bp R.length 0)) (.pointer (some ⟨b, 0, none⟩)) :=
  AR.bp rfl (by simp) (fun _ _ => ⟨b, h, rfl⟩) .nil

theorem EOp_alloc {o : Oper} {d t : Nat} {zs : List AC} (ho : o.op = .alloc t) (hd : o.dst = some d) (hN : d < N) (hz : zav P t = some zs) (h : K ((d, .c (.bp R.length 0)) :: s) (R ++ [.box zs])) : EOp P N o s R K := by
  intro Q a w W hn
  obtain ⟨v, h1, h2⟩ := zav_run hz w
  obtain ⟨W', k1, k2, k3⟩ := hn.sep.box (e := t) (arr := v.cells) (h2 W R)
  unfold Oper.wp
  have hr : (execOp a.eval o).run P w = .ok (.value (.pointer (some ⟨w.heap.size, 0, none⟩))) (w.alloc (.cells v.cells t)) := by
    simp only [execOp, ho, Instr.alloc, Sem.run_bind, h1, Result.andThen_ok]
    rfl
  rw [hr, Oper.upon_value, hd]
  exact ⟨_, _, W', h, (hn.next k1 k2).put hN (bp_new k3), k1⟩

theorem EOp_box {o : Oper} {d t : Nat} {x : Operand} {ys : List AC} (ho : o.op = .box t x) (hd : o.dst = some d) (hN : d < N) (hy : cellsOf (ev s x) = some ys) (h : K ((d, .c (.bp R.length 0)) :: s) (R ++ [.box ys])) : EOp P N o s R K := by
  intro Q a w W hn
  obtain ⟨W', k1, k2, k3⟩ := hn.sep.box (e := t) (arr := (a.eval x).cells) (cells_rel (hn.ev x) hy)
  unfold Oper.wp
  have hr : (execOp a.eval o).run P w = .ok (.value (.pointer (some ⟨w.heap.size, 0, none⟩))) (w.alloc (.cells (a.eval x).cells t)) := by
    simp only [execOp, ho]
    rfl
  rw [hr, Oper.upon_value, hd]
  exact ⟨_, _, W', h, (hn.next k1 k2).put hN (bp_new k3), k1⟩
end

/-! ### 2. Calls -/
def AVs (W : Wit) (R : List Res) (w : World) (xs : List AV) (vs : List Value) : Prop :=
  vs.length = xs.length ∧ ∀ (i : Nat) (x : AV) (v : Value), xs[i]? = some x → vs[i]? = some v → AVR W R w x v

def EFn (P : Program) (f : FuncId) (args : List AV) (R : List Res) (Q : AV → List Res → Prop) : Prop :=
  ∀ w W vals, AVs W R w args vals → Sep w W R → Calls P f vals.toArray w fun e w' => ∃ r R' W', Q r R' ∧ (∃ v, e = .returned v ∧ AVR W' R' w' r v) ∧ Sep w' W' R' ∧ Trans w W R w' W' R'

theorem EFn.mono {P : Program} {f : FuncId} {args : List AV} {R : List Res} {Q Q' : AV → List Res → Prop} (h : EFn P f args R Q) (hq : ∀ r R', Q r R' → Q' r R') : EFn P f args R Q' :=
  fun w W vals h1 h2 => (h w W vals h1 h2).mono fun e w' ⟨r, R', W', k1, k2⟩ => ⟨r, R', W', hq _ _ k1, k2⟩

/-- Is function f one with a body of its own? -/
def callable (P : Program) (f : FuncId) : Bool :=
  match P.funcs[f]? with
  | some fn => !(fn.name == "runtime.NumGoroutine") && fn.body.isSome
  | none => false

theorem run_callFunc {P : Program} {f : FuncId} (h : callable P f = true) (args : Array Value) (w : World) : (callFunc f args).run P w = .ok (.enter f args) w := by
  unfold callable at h
  split at h
  · rename_i fn hf
    simp only [Bool.and_eq_true, Bool.not_eq_true'] at h
    simp only [callFunc, Sem.run_bind, run_program, Result.andThen_ok, hf, h.1, Bool.false_eq_true, if_false]
    cases hb : fn.body with
    | none => rw [hb] at h; simp at h
    | some c => simp
  · cases h

def fill' (s : Slots) : Option Tmp → AV → Slots
  | some d, y => (d, y) :: s
  | none, _ => s

theorem Now.fill' {N : Nat} {s : Slots} {R : List Res} {a : Act} {w : World} {W : Wit} (h : Now N s R a w W) {dst : Option Tmp} (hd : ∀ d, dst = some d → d < N) {y : AV} {v : Value} (hv : AVR W R w y v) : Now N (E.fill' s dst y) R (a.put dst v) w W := by
  cases dst with
  | none => exact h
  | some d => exact h.put (hd d rfl) hv

theorem AVs.append {W : Wit} {R : List Res} {w : World} {xs ys : List AV} {vs us : List Value} (h : AVs W R w xs vs) (h' : AVs W R w ys us) : AVs W R w (xs ++ ys) (vs ++ us) := by
  refine ⟨by simp [h.1, h'.1], fun i x v hx hv => ?_⟩
  rw [List.getElem?_append] at hx hv
  by_cases hi : i < xs.length
  · rw [if_pos hi] at hx
    rw [if_pos (by rw [h.1]; exact hi)] at hv
    exact h.2 i x v hx hv
  · rw [if_neg hi] at hx
    rw [if_neg (by rw [h.1]; exact hi), h.1] at hv
    exact h'.2 _ x v hx hv

theorem AR.avs {W : Wit} {R : List Res} {w : World} {cs : List AC} {vs : List Value} (h : AR W R w cs vs) : AVs W R w (cs.map .c) vs := by
  refine ⟨by simp [h.length], fun i x v hx hv => ?_⟩
  have h1 := (h.drop i).take 1
  rw [List.getElem?_map] at hx
  cases hc : cs[i]? with
  | none => rw [hc] at hx; cases hx
  | some c =>
    rw [hc] at hx
    obtain rfl : AV.c c = x := by simpa using hx
    have e1 : (cs.drop i).take 1 = [c] := by
      rw [List.take_one, List.head?_drop, hc]; rfl
    have e2 : (vs.drop i).take 1 = [v] := by
      rw [List.take_one, List.head?_drop, hv]; rfl
    rw [e1, e2] at h1
    exact h1

theorem AR.fn_inv {W : Wit} {R : List Res} {w : World} {f : FuncId} {caps : List AC} {v : Value} (h : AR W R w [.fn f caps] [v]) : ∃ xs : List Value, v = .func (.func f) #[] xs.toArray ∧ AR W R w caps xs := by
  cases h with
  | fn h1 _ => exact ⟨_, rfl, h1⟩

section
variable {P : Program} {N : Nat} {s : Slots} {R : List Res} {K : Slots → List Res → Prop}

theorem EOp_call {o : Oper} {x : Operand} {args : Array Operand} {ats : Array TypeId} {f : FuncId} {caps : List AC} (ho : o.op = .call { callee := .value x, args := args, argTypes := ats }) (hd : ∀ d, o.dst = some d → d < N) (hx : ev s x = .c (.fn f caps)) (hf : callable P f = true)
    (h : EFn P f (args.toList.map (ev s) ++ caps.map .c) R fun r R' => K (fill' s o.dst r) R') : EOp P N o s R K := by
  intro Q a w W hn
  have hv := hn.ev x
  rw [hx] at hv
  obtain ⟨xs, e, h1⟩ := AR.fn_inv hv
  unfold Oper.wp
  have hr : (execOp a.eval o).run P w = .ok (.enter f (args.map a.eval ++ xs.toArray)) w := by
    simp only [execOp, ho, resolve, e, Deferred.ofValue, Sem.run_bind, Sem.run_pure, Result.andThen_ok, invoke]
    simpa using run_callFunc hf _ w
  rw [hr, Oper.upon_enter]
  have hav : AVs W R w (args.toList.map (ev s) ++ caps.map .c) (args.toList.map a.eval ++ xs) := by
    refine AVs.append ⟨by simp, fun i y v hy hu => ?_⟩ h1.avs
    rw [List.getElem?_map] at hy hu
    cases hi : args.toList[i]? with
    | none => rw [hi] at hy; cases hy
    | some z =>
      rw [hi] at hy hu
      obtain rfl : ev s z = y := by simpa using hy
      obtain rfl : a.eval z = v := by simpa using hu
      exact hn.ev z
  have hc := h w W _ hav hn.sep
  have hh : (args.toList.map a.eval ++ xs).toArray = args.map a.eval ++ xs.toArray := by
    apply Array.ext'; simp
  rw [hh] at hc
  refine hc.mono ?_
  rintro e' w' ⟨r, R', W', k1, ⟨v, rfl, k2⟩, k3, k4⟩
  exact ⟨_, R', W', k1, (hn.next k4 k3).fill' hd k2, k4⟩
end

/-- At which place does a number stand? -/
def ix : List Nat → Nat → Option Nat
  | [], _ => none
  | j :: l, i => if i = j then some 0 else (ix l i).map (· + 1)

theorem ix_get : ∀ {σ : List Nat} {i q : Nat}, ix σ i = some q → σ[q]? = some i
  | [], i, q, h => by cases h
  | j :: l, i, q, h => by
    unfold ix at h
    split at h
    · rename_i e
      obtain rfl := Option.some.inj h
      simp [e]
    · cases hq : ix l i with
      | none => rw [hq] at h; cases h
      | some p =>
        rw [hq] at h
        obtain rfl : p + 1 = q := by simpa using h
        simpa using ix_get hq

/-! ### 3. Resources told anew: fewer, in another order -/
def AC.ren (n : Nat) (σ : List Nat) : AC → AC
  | .sl i off len tot => if i < n then .sl i off len tot else match ix σ i with | some q => .sl (n + q) off len tot | none => .any
  | .bp i off => if i < n then .bp i off else match ix σ i with | some q => .bp (n + q) off | none => .any
  | .ep i j off tot => if i < n then .ep i j off tot else match ix σ i with | some q => .ep (n + q) j off tot | none => .any
  | .fn f caps => .fn f (rens n σ caps)
  | c => c
where rens (n : Nat) (σ : List Nat) : List AC → List AC
  | [] => []
  | c :: cs => c.ren n σ :: rens n σ cs

def AV.ren (n : Nat) (σ : List Nat) : AV → AV
  | .c x => .c (x.ren n σ)
  | .agg xs => .agg (AC.ren.rens n σ xs)
  | .tup xs => .tup (xs.map fun x => (x.1, AC.ren.rens n σ x.2))
  | .any => .any

def Res.ren (n : Nat) (σ : List Nat) : Res → Res
  | .box cs => .box (AC.ren.rens n σ cs)
  | r => r

def reR (n : Nat) (σ : List Nat) (R : List Res) : List Res := ((R.take n) ++ σ.map fun i => (R[i]?).getD .gone).map (Res.ren n σ)

def Wit.ren (W : Wit) (n : Nat) (σ : List Nat) : Wit :=
  ⟨fun i => if i < n then W.hs i else match σ[i - n]? with | some q => W.hs q | none => undef,
   fun i b => if i < n then W.fs i b else match σ[i - n]? with | some q => W.fs q b | none => False⟩

/-- Is it a list of resources from n on, without repetition? -/
def okσ (n : Nat) (R : List Res) (σ : List Nat) : Bool := decide σ.Nodup && σ.all fun i => decide (n ≤ i) && decide (i < R.length)

theorem reR_at {n : Nat} {σ : List Nat} {R : List Res} (hn : n ≤ R.length) {i : Nat} (hi : i < n) : (reR n σ R)[i]? = (R[i]?).map (Res.ren n σ) := by
  unfold reR
  rw [List.getElem?_map, List.getElem?_append_left (by rw [List.length_take]; omega), List.getElem?_take, if_pos hi]

theorem reR_new {n : Nat} {σ : List Nat} {R : List Res} (hn : n ≤ R.length) {q i : Nat} (hq : σ[q]? = some i) : (reR n σ R)[n + q]? = some (((R[i]?).getD .gone).ren n σ) := by
  unfold reR
  have hl : (R.take n).length = n := by rw [List.length_take]; omega
  rw [List.getElem?_map, List.getElem?_append_right (by omega), hl, show n + q - n = q by omega, List.getElem?_map, hq]
  rfl

theorem reR_len {n : Nat} {σ : List Nat} {R : List Res} (hn : n ≤ R.length) : (reR n σ R).length = n + σ.length := by
  unfold reR
  rw [List.length_map, List.length_append, List.length_map, List.length_take]
  omega

end Go.Proofs.Ytkaikajjhhnifaa.E
