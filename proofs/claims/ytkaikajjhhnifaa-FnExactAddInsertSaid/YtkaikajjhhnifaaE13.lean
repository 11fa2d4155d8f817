/- Words of the session's own, thirteenth part: arguments of any type that a law takes, opened; a law's row from what its function comes to. -/
import Derived.Test.YtkaikajjhhnifaaE12
import Derived.ProofKit
import Derived.OpenShut
import Derived.ShutString
import Derived.ChangeOld
import Derived.Carry
import Derived.SizedLaws
import Derived.Lib.SmallJoins
namespace Go.Proofs.Ytkaikajjhhnifaa.E
open Go Go.ChangeShapes Go.WideShapes Go.ChangeAt Go.RowKit Go.Joins
set_option linter.unusedVariables false
set_option linter.unusedSimpArgs false

/-! ### 1. Types of arguments -/
inductive Ty where
  | int
  | bool
  | str
  | sl (e : Ty)
  | st (b : Ty)
  | nil
  | cons (a b : Ty)

def Ty.den : Ty → Type
  | .int => Int
  | .bool => Bool
  | .str => ByteArray
  | .sl e => List e.den
  | .st b => b.den
  | .nil => Unit
  | .cons a b => a.den × b.den

def Ty.enc : (τ : Ty) → τ.den → List T
  | .int, n => [.sc (.int .i64 n)]
  | .bool, b => [.sc (.bool b)]
  | .str, s => [.sc (.string s)]
  | .sl e, xs => [.sl (List.map e.enc xs)]
  | .st b, y => b.enc y
  | .nil, _ => []
  | .cons a b, y => a.enc y.1 ++ b.enc y.2

def Ty.n : Ty → Nat
  | .int => 1
  | .bool => 1
  | .str => 1
  | .sl _ => 1
  | .st b => b.n
  | .nil => 0
  | .cons a b => a.n + b.n

/-- Whole numbers that are no whole numbers of Go's do not come up. -/
def Ty.ok : (τ : Ty) → τ.den → Prop
  | .int, n => -9223372036854775808 ≤ (show Int from n) ∧ (show Int from n) ≤ 9223372036854775807
  | .bool, _ => True
  | .str, s => (show ByteArray from s).size ≤ 9223372036854775807
  | .sl e, xs => ∀ x ∈ (show List e.den from xs), e.ok x
  | .st b, y => b.ok y
  | .nil, _ => True
  | .cons a b, y => a.ok y.1 ∧ b.ok y.2

def Ty.av : (τ : Ty) → τ.den → AV
  | .int, n => .c (.sc (.int .i64 n))
  | .bool, b => .c (.sc (.bool b))
  | .str, s => .c (.sc (.string s))
  | .sl e, xs => .c (.ro (List.map e.enc xs))
  | .st b, y => .agg ((b.enc y).map tc)
  | .nil, _ => .any
  | .cons _ _, _ => .any

theorem Ty.enc_len : ∀ (τ : Ty) (y : τ.den), (τ.enc y).length = τ.n
  | .int, _ => rfl
  | .bool, _ => rfl
  | .str, _ => rfl
  | .sl _, _ => rfl
  | .st b, y => Ty.enc_len b y
  | .nil, _ => rfl
  | .cons a b, y => by
    simp only [Ty.enc, Ty.n, List.length_append, Ty.enc_len a y.1, Ty.enc_len b y.2]

mutual
def fits (P : Program) : Ty → TypeId → Bool
  | .int, t => match P.underlying t with | some (.int .i64) => true | _ => false
  | .bool, t => match P.underlying t with | some .bool => true | _ => false
  | .str, t => match P.underlying t with | some .string => true | _ => false
  | .sl e, t => match P.underlying t with | some (.slice u) => P.cellsOf u == e.n && decide (0 < e.n) && fits P e u | _ => false
  | .st b, t => match P.underlying t with | some (.struct fs) => P.cellsOf t == b.n && fitsF P b fs.toList 0 | _ => false
  | .nil, _ => false
  | .cons _ _, _ => false
def fitsF (P : Program) : Ty → List Field → Nat → Bool
  | .nil, fs, _ => fs.isEmpty
  | .cons a b, fs, off => match fs with
    | f :: fs => f.offset == off && P.cellsOf f.type == a.n && fits P a f.type && fitsF P b fs (off + a.n)
    | [] => false
  | .int, _, _ => false
  | .bool, _, _ => false
  | .str, _, _ => false
  | .sl _, _, _ => false
  | .st _, _, _ => false
end

section
variable {H : Type} {enc : TypeId × Value → H} {P : Program} {w : World} {sp : Nat → Bool} {held : Bool}

theorem Rd.cast {O : Nat → Prop} {ts ts' : List T} {vs : List Value} (h : Rd w O ts vs) (e : ts = ts') : Rd w O ts' vs := e ▸ h

theorem rows_of {e : Ty} {k : Nat} {a : Addr} {tr : List Value → Option (DataW H × List MemPlace)} (he : k = e.n)
    (hone : ∀ cs x, tr cs = some x → ∃ y, e.ok y ∧ Rd w (fun b => b < w.heap.size) (e.enc y) cs) :
    ∀ (elems : List (DataW H × List MemPlace)) (m : Nat), (∀ i, i < elems.length → (w.cells? 0 (a.add ((m + i) * k)) k).bind tr = elems[i]?) →
    ∃ (ys : List e.den) (inner : List Value), ys.length = elems.length ∧ (∀ y ∈ ys, e.ok y) ∧ Rd w (fun b => b < w.heap.size) (ys.map e.enc).flatten inner ∧ inner.length = elems.length * k ∧ ∀ j u, inner[j]? = some u → w.cell? (a.add (m * k + j)) = some u
  | [], m, h => ⟨[], [], rfl, by simp, .nil, by simp, by simp⟩
  | x :: elems, m, h => by
    have h0 := h 0 (by simp)
    simp only [List.getElem?_cons_zero, Nat.add_zero, Option.bind_eq_some_iff] at h0
    obtain ⟨cs, h1, h2⟩ := h0
    obtain ⟨y, hy, hrd⟩ := hone cs x h2
    obtain ⟨-, hl, hc⟩ := World.cells?_some h1
    obtain ⟨ys, inner, g1, g2, g3, g4, g5⟩ := rows_of he hone elems (m + 1) (fun i hi => by
      have := h (i + 1) (by simp; omega)
      rw [List.getElem?_cons_succ] at this
      rw [show m + 1 + i = m + (i + 1) by omega]; exact this)
    refine ⟨y :: ys, cs ++ inner, by simp [g1], fun z hz => by rcases List.mem_cons.1 hz with rfl | hz; exact hy; exact g2 z hz, ?_, by simp [hl, g4, Nat.add_mul]; omega, fun j u hj => ?_⟩
    · rw [List.map_cons, List.flatten_cons]; exact hrd.append g3
    · rw [List.getElem?_append] at hj
      have hadd : ∀ p q, (a.add p).add q = a.add (p + q) := fun p q => by
        unfold Addr.add
        by_cases hp : p = 0 <;> by_cases hq : q = 0 <;> simp [hp, hq]
        omega
      split at hj
      · rename_i hlt
        rw [hl] at hlt
        have := hc j hlt
        rw [hj, hadd] at this
        exact this
      · have := g5 _ u hj
        rw [show (m + 1) * k + (j - cs.length) = m * k + j by rw [Nat.add_mul, hl]; omega] at this
        exact this

theorem trodRd (τ : Ty) : (∀ t n cs x, fits P τ t = true → DataW.trod enc P w 0 sp held n t cs = some x → ∃ y : τ.den, τ.ok y ∧ Rd w (fun b => b < w.heap.size) (τ.enc y) cs) ∧
    (∀ (fs : List Field) (off n : Nat) (cs : List Value) (xs : List (DataW H × List MemPlace)), fitsF P τ fs off = true → xs.length = fs.length → (∀ (i : Nat) (f : Field), fs[i]? = some f → DataW.trod enc P w 0 sp held n f.type ((cs.drop f.offset).take (P.cellsOf f.type)) = xs[i]?) →
      ∃ y : τ.den, τ.ok y ∧ Rd w (fun b => b < w.heap.size) (τ.enc y) ((cs.drop off).take τ.n)) := by
  induction τ with
  | int =>
    refine ⟨fun t n cs x hf h => ?_, fun fs off n cs xs hf => by simp [fitsF] at hf⟩
    unfold fits at hf
    split at hf
    · rename_i hu
      obtain ⟨z, rfl, -, hw⟩ := DataW.trod_int hu h
      refine ⟨z, ?_, .sc rfl .nil⟩
      simp [Lit.wf, IntKind.has, IntKind.min, IntKind.max, IntKind.bits, IntKind.signed] at hw
      exact (⟨by omega, by omega⟩ : -9223372036854775808 ≤ z ∧ z ≤ 9223372036854775807)
    · cases hf
  | bool =>
    refine ⟨fun t n cs x hf h => ?_, fun fs off n cs xs hf => by simp [fitsF] at hf⟩
    unfold fits at hf
    split at hf
    · rename_i hu
      obtain ⟨z, rfl, -⟩ := DataW.trod_bool hu h
      exact ⟨z, trivial, .sc rfl .nil⟩
    · cases hf
  | str =>
    refine ⟨fun t n cs x hf h => ?_, fun fs off n cs xs hf => by simp [fitsF] at hf⟩
    unfold fits at hf
    split at hf
    · rename_i hu
      obtain ⟨z, rfl, -, hw⟩ := DataW.trod_string hu h
      exact ⟨z, by unfold maxLen at hw; exact (by omega : z.size ≤ 9223372036854775807), .sc rfl .nil⟩
    · cases hf
  | sl e ih =>
    refine ⟨fun t n cs x hf h => ?_, fun fs off n cs xs hf => by simp [fitsF] at hf⟩
    unfold fits at hf
    split at hf
    · rename_i u hu
      simp only [Bool.and_eq_true, beq_iff_eq, decide_eq_true_eq] at hf
      obtain ⟨⟨h1, h2⟩, h3⟩ := hf
      rcases DataW.trod_slice hu h with ⟨rfl, -⟩ | ⟨a, len, cap, elems, rest, m, rfl, rfl, -, -, hlc, hcm, hlen, hel, -, -⟩
      · exact ⟨[], by simp [Ty.ok], nil_ro _ _⟩
      · obtain ⟨ys, inner, g1, g2, g3, g4, g5⟩ := rows_of (w := w) (a := a) (k := P.cellsOf u) (e := e) (tr := DataW.trod enc P w 0 sp held m u) h1 (fun cs x hx => ih.1 u m cs x h3 hx) elems 0 (fun i hi => by rw [Nat.zero_add]; exact hel i (by omega))
        refine ⟨ys, g2, ?_⟩
        have := Rd.sl (w := w) (O := fun b => b < w.heap.size) (rows := ys.map e.enc) (a := some a) (c := cap) (inner := inner) (ts := []) (vs := []) e.n ⟨by rw [List.length_map, g1]; omega, hcm⟩ h2 (fun r hr => by
            obtain ⟨y, _, rfl⟩ := List.mem_map.1 hr
            exact Ty.enc_len e y) (fun hp => by
            rw [List.length_map, g1] at hp
            have hin : 0 < inner.length := by rw [g4, h1]; exact Nat.mul_pos hp h2
            have hc := g5 0 inner[0] (List.getElem?_eq_getElem hin)
            simp only [Nat.zero_mul, Nat.zero_add] at hc
            have ha : a.add 0 = a := by simp [Addr.add]
            rw [ha] at hc
            have hs : a.spot = none := by
              unfold World.cell? at hc
              split at hc
              · split at hc
                · cases hc
                · rename_i hsp; simpa using hsp
              · cases hc
            refine ⟨a.block, a.off, by rw [← hs], World.block_lt_of_cell? w _ hc, fun j u hj => ?_⟩
            have := g5 j u hj
            rw [Nat.zero_mul, Nat.zero_add] at this
            have e1 : a.add j = ⟨a.block, a.off + j, none⟩ := by
              unfold Addr.add
              split
              · rename_i h0; subst h0; rw [Nat.add_zero, ← hs]
              · rfl
            rwa [e1] at this) g3 .nil
        rw [List.length_map, g1, hlen] at this
        exact this
    · cases hf
  | st b ih =>
    refine ⟨fun t n cs x hf h => ?_, fun fs off n cs xs hf => by simp [fitsF] at hf⟩
    unfold fits at hf
    split at hf
    · rename_i fs hu
      simp only [Bool.and_eq_true, beq_iff_eq] at hf
      obtain ⟨h1, h2⟩ := hf
      obtain ⟨xs, m, rfl, -, hl, hxl, hx⟩ := DataW.trod_struct hu h
      obtain ⟨y, hy, hr⟩ := ih.2 fs.toList 0 m cs xs h2 (by simpa using hxl) (fun i f hi => hx i f (by simpa using hi))
      refine ⟨y, hy, ?_⟩
      rw [List.drop_zero, List.take_of_length_le (by omega)] at hr
      exact hr
    · cases hf
  | nil =>
    refine ⟨fun t n cs x hf => by simp [fits] at hf, fun fs off n cs xs hf hl hx => ⟨(), trivial, ?_⟩⟩
    rw [show Ty.nil.n = 0 from rfl, List.take_zero]
    exact Rd.nil
  | cons a b iha ihb =>
    refine ⟨fun t n cs x hf => by simp [fits] at hf, fun fs off n cs xs hf hl hx => ?_⟩
    unfold fitsF at hf
    split at hf
    · rename_i f fs'
      simp only [Bool.and_eq_true, beq_iff_eq] at hf
      obtain ⟨⟨⟨h1, h2⟩, h3⟩, h4⟩ := hf
      match xs, hl with
      | x0 :: xs', hl =>
        have h0 := hx 0 f rfl
        rw [List.getElem?_cons_zero] at h0
        obtain ⟨y1, k1, k2⟩ := iha.1 f.type n _ x0 h3 h0
        obtain ⟨y2, k3, k4⟩ := ihb.2 fs' (off + a.n) n cs xs' h4 (by simpa using hl) (fun i g hg => by
          have := hx (i + 1) g (by simpa using hg)
          simpa using this)
        refine ⟨(y1, y2), ⟨k1, k3⟩, ?_⟩
        have := k2.append k4
        rw [h1, h2] at this
        have e : (cs.drop off).take (a.n + b.n) = (cs.drop off).take a.n ++ (cs.drop (off + a.n)).take b.n := by
          rw [List.take_add, List.drop_drop]
        show Rd w _ (a.enc y1 ++ b.enc y2) ((cs.drop off).take (a.n + b.n))
        rw [e]
        exact this
    · cases hf

theorem open_any {τ : Ty} {t : TypeId} {r : Go.Reach} {b0 : Nat} {v : Value} {d : DataW H} {ps : List MemPlace} (hf : fits P τ t = true) (hv : Value.okWide P w r b0 t v) (hd : DataW.Trod enc P w 0 sp held t v d ps) :
    ∃ y : τ.den, τ.ok y ∧ AVR W0 [] w (τ.av y) v := by
  obtain ⟨n, h⟩ := hd
  obtain ⟨y, h1, h2⟩ := (trodRd (enc := enc) (P := P) (w := w) (sp := sp) (held := held) τ).1 t n _ _ hf h
  refine ⟨y, h1, ?_⟩
  have h3 : Rd w (W0.out w) (τ.enc y) v.cells.toList := h2.mono fun b hb => ⟨⟨hb, fun _ h => h⟩, rfl⟩
  cases τ with
  | int =>
    unfold fits at hf
    split at hf
    · rename_i hu
      obtain ⟨z, rfl⟩ := okWide_int hu hv
      exact h3.ar
    · cases hf
  | bool =>
    unfold fits at hf
    split at hf
    · rename_i hu
      obtain ⟨z, rfl⟩ := okWide_bool hu hv
      exact h3.ar
    · cases hf
  | str =>
    unfold fits at hf
    split at hf
    · rename_i hu
      obtain ⟨z, rfl⟩ := okWide_string hu hv
      exact h3.ar
    · cases hf
  | sl e =>
    unfold fits at hf
    split at hf
    · rename_i u hu
      obtain ⟨a, l, c, rfl⟩ := okWide_slice hu hv
      exact h3.ar
    · cases hf
  | st b =>
    unfold fits at hf
    split at hf
    · rename_i fs hu
      obtain ⟨cs, rfl, -⟩ := okWide_struct hu hv
      exact ⟨cs.toList, rfl, h3.ar⟩
    · cases hf
  | nil => simp [fits] at hf
  | cons a b => simp [fits] at hf
end

theorem AVs.nil {W : Wit} {R : List Res} {w : World} : AVs W R w [] [] := ⟨rfl, by simp⟩
theorem AVs.cons {W : Wit} {R : List Res} {w : World} {x : AV} {v : Value} {xs : List AV} {vs : List Value} (h : AVR W R w x v) (k : AVs W R w xs vs) : AVs W R w (x :: xs) (v :: vs) :=
  ⟨by simp [k.1], fun i y u hy hu => by
    cases i with
    | zero =>
      obtain rfl : x = y := by simpa using hy
      obtain rfl : v = u := by simpa using hu
      exact h
    | succ i => exact k.2 i y u (by simpa using hy) (by simpa using hu)⟩

/-! ### 2. A law's function, called over its arguments -/
theorem law_calls {P : Program} {f : FuncId} {args : List AV} {vals : List Value} {w : World} (h : EFn P f args [] (fun r S => r = .c (.sc (.bool true)) ∧ S = [])) (ha : AVs W0 [] w args vals) :
    Calls P f vals.toArray w fun e w' => e = .returned (.bool true) ∧ Below w.heap.size w w' := by
  refine (h w W0 vals ha (Sep.none w)).mono ?_
  rintro e w' ⟨r, S, V, ⟨rfl, rfl⟩, ⟨v, rfl, k2⟩, k3, k4⟩
  refine ⟨?_, ⟨k4.os, k4.tape, k4.output, k4.size, fun b hb => k4.frame b ⟨hb, fun _ h => h⟩⟩⟩
  rw [AR.sc_inv k2]

end Go.Proofs.Ytkaikajjhhnifaa.E
