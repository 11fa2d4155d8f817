/- Words of the session's own, twenty-first part: a slice is cut. -/
import Derived.Test.YtkaikajjhhnifaaE20
import Derived.Laws.Slices
namespace Go.Proofs.Ytkaikajjhhnifaa.E
open Go Go.RowKit
set_option linter.unusedVariables false
set_option linter.unusedSimpArgs false

def lov (s : Slots) : Option Operand → Option Int
  | none => some 0
  | some x => match ev s x with | .c (.sc (.int .i64 i)) => some i | _ => none
def hiv (n : Nat) (s : Slots) : Option Operand → Option Int
  | none => some n
  | some x => match ev s x with | .c (.sc (.int .i64 i)) => some i | _ => none

section
variable {P : Program} {N : Nat} {s : Slots} {R : List Res} {o : Oper} {t e k : Nat} {b : Bool} {x : Operand} {lo hi : Option Operand} {l h : Int}

theorem now_int {a : Act} {w : World} {W : Wit} (hn : Now N s R a w W) {x : Operand} {i : Int} (hx : (match E.ev s x with | .c (.sc (.int .i64 i)) => some i | _ => none) = some i) : a.eval x = .int .i64 i := by
  split at hx
  · rename_i j e
    obtain rfl := Option.some.inj hx
    exact hn.sc e
  · cases hx

theorem run_cut {a : Act} {w : World} {W : Wit} (hn : Now N s R a w W) {ad : Option Addr} {n c : Nat} (ho : o.op = .slice t x lo hi none) (ht : isSlice P t = some e) (hty : tyIs P e = some (b, k)) (hx : a.eval x = .slice ad n c) (hl : lov s lo = some l) (hh : hiv n s hi = some h)
    (h0 : 0 ≤ l) (h1 : l ≤ h) (h2 : h ≤ n) (hc : n ≤ c) (w' : World) : (execOp a.eval o).run P w' = .ok (.value (sliced ad l.toNat h.toNat c k)) w' := by
  have hu := isSlice_of ht
  have he : P.elem t = e := by simp [Program.elem, hu]
  have hu' : P.underlying t = some (.slice (P.elem t)) := by rw [he]; exact hu
  have hs := run_sizeOf_ hty
  rw [← he] at hs
  simp only [execOp, ho, hx, Option.map_none, Sem.run_bind]
  cases lo with
  | none =>
    obtain rfl : 0 = l := Option.some.inj hl
    cases hi with
    | none =>
      obtain rfl : (n : Int) = h := Option.some.inj hh
      simp only [Option.map_none, run_sliceAt_slice w' t _ _ _ _ hu', run_slice_all w' t ad n c hu', hs w', Result.andThen_ok]
      rfl
    | some y =>
      have hy := now_int hn hh
      simp only [Option.map_none, Option.map_some, hy, run_sliceAt_slice w' t _ _ _ _ hu', run_slice_h w' t ad n c hu' .i64 h (by omega) (by omega), hs w', Result.andThen_ok]
      rfl
  | some z =>
    have hz := now_int hn hl
    cases hi with
    | none =>
      obtain rfl : (n : Int) = h := Option.some.inj hh
      simp only [Option.map_none, Option.map_some, hz, run_sliceAt_slice w' t _ _ _ _ hu', run_slice_l w' t ad n c hu' .i64 l (by omega) (by omega), hs w', Result.andThen_ok]
      rfl
    | some y =>
      have hy := now_int hn hh
      simp only [Option.map_none, Option.map_some, hz, hy, run_sliceAt_slice w' t _ _ _ _ hu', run_slice_lh w' t ad n c hu' .i64 .i64 l h (by omega) (by omega) (by omega), hs w', Result.andThen_ok]
      rfl

/-- A part of what is read. -/
theorem Rd.cut {w : World} {O : Nat → Prop} {rows : List (List T)} {v : Value} {l h k : Nat} (hr : Rd w O [.sl rows] [v]) (h1 : l ≤ h) (h2 : h ≤ rows.length) (hk : ∀ r ∈ rows, r.length = k) :
    ∃ ad c, v = .slice ad rows.length c ∧ rows.length ≤ c ∧ Rd w O [.sl ((rows.drop l).take (h - l))] [sliced ad l h c k] := by
  cases hr with
  | @sl _ ad c inner _ _ k0 g1 g2 g3 g4 g5 _ =>
    refine ⟨ad, c, rfl, g1.1, ?_⟩
    have hlen : ((rows.drop l).take (h - l)).length = h - l := by rw [List.length_take, List.length_drop]; omega
    have key := Rd.sl (w := w) (O := O) (rows := (rows.drop l).take (h - l)) (a := if c = l then ad else ad.map (·.add (l * k))) (c := c - l) (inner := (inner.drop (l * k0)).take ((h - l) * k0)) (ts := []) (vs := []) k0 ⟨by omega, by have := g1.2; omega⟩ g2
      (fun r hr => g3 r (List.mem_of_mem_drop (List.mem_of_mem_take hr)))
      (fun hp => by
        have hne : rows ≠ [] := by intro e; subst e; simp at hp
        obtain ⟨r, rs, rfl⟩ := List.exists_cons_of_ne_nil hne
        obtain rfl : k = k0 := by rw [← hk r (List.mem_cons_self ..), g3 r (List.mem_cons_self ..)]
        obtain ⟨b, o, e, hb, hc⟩ := g4 (by simp)
        have hcl : ¬ c = l := by have := g1.1; simp only [hlen] at hp; omega
        refine ⟨b, o + l * k, by rw [if_neg hcl, e]; simp [add_plain], hb, fun j u hj => ?_⟩
        rw [List.getElem?_take] at hj
        split at hj
        · rw [List.getElem?_drop] at hj
          have := hc _ u hj
          rwa [Nat.add_assoc]
        · cases hj)
      (by rw [flatten_sub g3]; exact (g5.drop _).take _) .nil
    rw [hlen] at key
    exact key

theorem AR.ro_rd {W : Wit} {R : List Res} {w : World} {rows : List (List T)} {v : Value} (h : AR W R w [.ro rows] [v]) : Rd w (W.out w) [.sl rows] [v] := by
  cases h with
  | ro h _ => exact h
theorem AR.sl_inv {W : Wit} {R : List Res} {w : World} {i off len tot : Nat} {v : Value} (h : AR W R w [.sl i off len tot] [v]) : v.oneCell' = true ∧ ∀ e k rows, R[i]? = some (.row e k rows) → tot ≤ rows.length ∧ (rows.length = tot → slAt (W.hs i) v k off len) := by
  cases h with
  | sl h1 _ h3 _ => exact ⟨h1, h3⟩

/-- What is only read is cut. -/
theorem L_slice_ro {rows : List (List T)} {l h : Nat} (ho : o.op = .slice t x lo hi none) (ht : isSlice P t = some e) (hty : tyIs P e = some (b, k)) (hx : E.ev s x = .c (.ro rows)) (hl : lov s lo = some (l : Int)) (hh : hiv rows.length s hi = some (h : Int))
    (h1 : l ≤ h) (h2 : h ≤ rows.length) (hk : ∀ r ∈ rows, r.length = k) : Pure P o s R (.c (.ro ((rows.drop l).take (h - l)))) := fun N a w W hn => by
  have hv := hn.ev x
  rw [hx] at hv
  have hv' : AR W R w [.ro rows] [a.eval x] := hv
  obtain ⟨ad, c, e1, e2, e3⟩ := hv'.ro_rd.cut h1 h2 hk
  refine ⟨sliced ad l h c k, AR.ro e3 .nil, fun w' => ?_⟩
  have := run_cut hn ho ht hty e1 hl hh (by omega) (by omega) (by omega) e2 w'
  simpa using this

/-- A slice of one's own is cut. -/
theorem L_slice_sl {rows : List (List T)} {e' i off len tot l h : Nat} (ho : o.op = .slice t x lo hi none) (ht : isSlice P t = some e) (hty : tyIs P e = some (b, k)) (hx : E.ev s x = .c (.sl i off len tot)) (hR : R[i]? = some (.row e' k rows)) (htot : rows.length = tot)
    (hl : lov s lo = some (l : Int)) (hh : hiv len s hi = some (h : Int)) (h1 : l ≤ h) (h2 : h ≤ len) : Pure P o s R (.c (.sl i (off + l) (h - l) tot)) := fun N a w W hn => by
  have hv := hn.ev x
  rw [hx] at hv
  have hlt : i < R.length := by
    rcases Nat.lt_or_ge i R.length with h' | h'
    · exact h'
    · rw [List.getElem?_eq_none h'] at hR; cases hR
  have hv' : AR W R w [.sl i off len tot] [a.eval x] := hv
  obtain ⟨hone, hat⟩ := hv'.sl_inv
  obtain ⟨g1, g2⟩ := hat _ _ _ hR
  obtain ⟨a0, n0, c0, f1, f2, f3⟩ := g2 htot
  have mk : ∀ v, v.oneCell' = true → slAt (W.hs i) v k (off + l) (h - l) → AVR W R w (.c (.sl i (off + l) (h - l) tot)) v := fun v h1 h2 => by
    refine AR.sl h1 hlt (fun e2 k2 rows2 hr => ?_) .nil
    rw [hR] at hr
    obtain ⟨rfl, rfl, rfl⟩ : e' = e2 ∧ k = k2 ∧ rows = rows2 := by cases hr; exact ⟨rfl, rfl, rfl⟩
    exact ⟨g1, fun _ => h2⟩
  rcases f3 with f3 | ⟨rfl, f0, a2, c2, f3, f4⟩
  · have hcap : len ≤ c0 - off := by
      obtain ⟨k1, k2, cells, G, k3, _⟩ := hn.sep.res i _ hR
      obtain ⟨a', c', q1, q2, qm, _⟩ := ownsRow_reads k3
      rw [f1] at q1
      obtain ⟨-, rfl, rfl⟩ : a0 = a' ∧ n0 = rows.length ∧ c0 = c' := by cases q1; exact ⟨rfl, rfl, rfl⟩
      omega
    refine ⟨_, mk (sliced (a0.map fun b => ⟨b.block, off * k, none⟩) l h (c0 - off) k) rfl ⟨a0, n0, c0, f1, by omega, ?_⟩, fun w' => ?_⟩
    · by_cases hm : c0 - off = l
      · by_cases hz : off + l = 0
        · refine .inl ?_
          obtain ⟨rfl, rfl⟩ : off = 0 ∧ l = 0 := by omega
          simp [sliced, hm]
        · refine .inr ⟨by omega, by omega, _, _, by unfold sliced; rw [show h - l = 0 by omega], ?_⟩
          simp [hm]
      · refine .inl ?_
        unfold sliced
        rw [if_neg hm, Nat.sub_sub, Option.map_map]
        congr 2
        funext q
        simp [add_plain, Nat.add_mul]
    · have := run_cut hn ho ht hty f3 hl hh (by omega) (by omega) (by omega) hcap w'
      simpa using this
  · obtain ⟨rfl, rfl⟩ : l = 0 ∧ h = 0 := by omega
    refine ⟨_, mk (sliced a2 0 0 c2 k) rfl ⟨a0, n0, c0, f1, by omega, .inr ⟨rfl, by omega, _, _, rfl, by omega⟩⟩, fun w' => ?_⟩
    have := run_cut hn ho ht hty f3 hl hh (by omega) (by omega) (by omega) (Nat.zero_le _) w'
    simpa using this
end

theorem Pure.as {P : Program} {o : Oper} {s : Slots} {R : List Res} {y y' : AV} (h : Pure P o s R y) (e : y = y') : Pure P o s R y' := e ▸ h
theorem ints_cut (xs : List Int) (l n : Nat) : ((ints xs).drop l).take n = ints ((xs.drop l).take n) := by simp [ints, List.map_take, List.map_drop]
theorem pairs_cut (xs : List (Int × Int)) (l n : Nat) : ((pairs xs).drop l).take n = pairs ((xs.drop l).take n) := by simp [pairs, List.map_take, List.map_drop]
theorem bools_cut (xs : List Bool) (l n : Nat) : ((bools xs).drop l).take n = bools ((xs.drop l).take n) := by simp [bools, List.map_take, List.map_drop]
theorem pairs_take (xs : List (Int × Int)) (n : Nat) : (pairs xs).take n = pairs (xs.take n) := by simp [pairs, List.map_take]
theorem bools_take (xs : List Bool) (n : Nat) : (bools xs).take n = bools (xs.take n) := by simp [bools, List.map_take]
end Go.Proofs.Ytkaikajjhhnifaa.E
