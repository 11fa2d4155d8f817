/- Words of the session's own, eighteenth part: a callee that is handed some of the resources; the others stand. -/
import Derived.Test.YtkaikajjhhnifaaE17
namespace Go.Proofs.Ytkaikajjhhnifaa.E
open Go Go.RowKit
set_option linter.unusedVariables false
set_option linter.unusedSimpArgs false

/-- A row of one's own, read. -/
theorem sl_rd {W : Wit} {R : List Res} {w : World} {O : Nat → Prop} (hs : Sep w W R) {i off len tot e k : Nat} {rows : List (List T)} {v : Value} (hR : R[i]? = some (.row e k rows)) (ht : rows.length = tot) (h2 : tot ≤ rows.length) (h3 : slAt (W.hs i) v k off len) (hO : ∀ b, W.fs i b → O b) :
    Rd w O [.sl ((rows.drop off).take len)] [v] := by
  obtain ⟨a, n, c, e1, e0, e2⟩ := h3
  obtain ⟨f1, f2, cells, G, f3, f4, f5, f6⟩ := hs.res i _ hR
  obtain ⟨a', c', g1, g2, gm, g0, g3⟩ := ownsRow_reads f3
  rw [e1] at g1
  obtain ⟨rfl, rfl, rfl⟩ : a = a' ∧ n = rows.length ∧ c = c' := by cases g1; exact ⟨rfl, rfl, rfl⟩
  have hsub : ((rows.drop off).take len).length = len := by rw [List.length_take, List.length_drop]; omega
  have hrd : Rd w O rows.flatten cells := f4.rd fun b hb => hO b ((f6 b).2 (.inr hb))
  have hrd2 : Rd w O ((rows.drop off).take len).flatten ((cells.drop (off * k)).take (len * k)) := by
    rw [flatten_sub f2]; exact (hrd.drop _).take _
  have hk2 : ∀ r ∈ (rows.drop off).take len, r.length = k := fun r hr => f2 r (List.mem_of_mem_drop (List.mem_of_mem_take hr))
  rcases e2 with e2 | ⟨rfl, h0, a2, c2, e2, e3⟩
  · subst e2
    have := Rd.sl (w := w) (O := O) (rows := (rows.drop off).take len) (a := a.map fun b => ⟨b.block, off * k, none⟩) (c := c - off) (inner := (cells.drop (off * k)).take (len * k)) (ts := []) (vs := []) k ⟨by omega, by omega⟩ f1 hk2 (fun hp => by
      obtain ⟨b, rfl, hb, hc⟩ := g3 (by omega)
      refine ⟨b, off * k, rfl, hO b ((f6 b).2 (.inl hb)), fun j u hj => ?_⟩
      rw [List.getElem?_take] at hj
      split at hj
      · rw [List.getElem?_drop] at hj
        have := hc _ u hj
        rwa [Nat.zero_add] at this
      · cases hj) hrd2 .nil
    rwa [hsub] at this
  · subst e2
    have := Rd.sl (w := w) (O := O) (rows := (rows.drop off).take 0) (a := a2) (c := c2) (inner := []) (ts := []) (vs := []) k ⟨by simp, e3⟩ f1 (by simp) (fun hp => by simp at hp) (by simpa using Rd.nil) .nil
    simpa using this

/-! ### 1. Handing over -/
def AC.sub (R : List Res) (σ : List Nat) : AC → AC
  | .sl i off len tot => match ix σ i with
    | some q => .sl q off len tot
    | none => match R[i]? with
      | some (.row e k rows) => if rows.length = tot then .ro ((rows.drop off).take len) else .any
      | _ => .any
  | .bp i off => match ix σ i with | some q => .bp q off | none => .any
  | .ep i j off tot => match ix σ i with | some q => .ep q j off tot | none => .any
  | .fn f caps => .fn f (subs R σ caps)
  | c => c
where subs (R : List Res) (σ : List Nat) : List AC → List AC
  | [] => []
  | c :: cs => c.sub R σ :: subs R σ cs

def AV.sub (R : List Res) (σ : List Nat) : AV → AV
  | .c x => .c (x.sub R σ)
  | .agg xs => .agg (AC.sub.subs R σ xs)
  | .tup _ => .any
  | .any => .any

theorem AR.sub {W : Wit} {R : List Res} {w : World} {σ : List Nat} (hs : Sep w W R) (ho : okσ 0 R σ = true) {cs : List AC} {vs : List Value} (h : AR W R w cs vs) : AR (W.ren 0 σ) (reR 0 σ R) w (AC.sub.subs R σ cs) vs := by
  have one : ∀ {c : AC} {v : Value}, AR W R w [c] [v] → AR (W.ren 0 σ) (reR 0 σ R) w [c.ren 0 σ] [v] := fun h => by
    have := h.ren (n := 0) (σ := σ) (Nat.zero_le _) ho
    simpa [AC.ren.rens] using this
  have key : ∀ {i : Nat}, ix σ i = none → ∀ b, W.fs i b → ∀ q, ¬ (W.ren 0 σ).fs q b := fun {i} hi b hb q hq => by
    obtain ⟨p, h1, _, h3⟩ := Wit.ren_sub q b hq
    have e := hs.apart i p b hb h1
    subst e
    have := h3 (by omega)
    rw [show q - 0 = q by omega] at this
    exact ix_none hi (List.mem_of_getElem? this)
  induction h with
  | nil => exact .nil
  | sc h1 _ ih => exact .sc h1 ih
  | any h1 _ ih => exact .any h1 ih
  | ro h1 _ ih => exact AR.cons_mk (one (AR.ro h1 .nil)) ih
  | rp b o inner h1 h2 h3 h4 _ ih => exact AR.cons_mk (one (AR.rp b o inner h1 h2 h3 h4 .nil)) ih
  | fn _ _ ih1 ih2 => exact .fn ih1 ih2
  | @sl i off len tot v cs vs h1 h2 h3 _ ih =>
    have h0 := one (AR.sl (off := off) (len := len) (tot := tot) h1 h2 h3 .nil)
    simp only [AC.sub.subs, AC.sub]
    simp only [AC.ren, Nat.not_lt_zero, if_false] at h0
    cases hq : ix σ i with
    | some q => rw [hq] at h0; simp only [Nat.zero_add] at h0; exact AR.cons_mk h0 ih
    | none =>
      simp only
      split
      · rename_i e k rows hR
        split
        · rename_i ht
          exact AR.cons_mk (AR.ro (sl_rd hs hR ht (by omega) ((h3 _ _ _ hR).2 ht) fun b hb => ⟨hs.lt i b hb, key hq b hb⟩) .nil) ih
        · exact .any h1 ih
      · exact .any h1 ih
  | @bp i off v cs vs h1 h2 h3 _ ih =>
    have h0 := one (AR.bp (off := off) h1 h2 h3 .nil)
    simp only [AC.sub.subs, AC.sub]
    simp only [AC.ren, Nat.not_lt_zero, if_false] at h0
    cases hq : ix σ i with
    | some q => rw [hq] at h0; simp only [Nat.zero_add] at h0; exact AR.cons_mk h0 ih
    | none => exact .any h1 ih
  | @ep i j off tot v cs vs h1 h2 h3 _ ih =>
    have h0 := one (AR.ep (j := j) (off := off) (tot := tot) h1 h2 h3 .nil)
    simp only [AC.sub.subs, AC.sub]
    simp only [AC.ren, Nat.not_lt_zero, if_false] at h0
    cases hq : ix σ i with
    | some q => rw [hq] at h0; simp only [Nat.zero_add] at h0; exact AR.cons_mk h0 ih
    | none => exact .any h1 ih
where
  ix_none : ∀ {σ : List Nat} {i : Nat}, ix σ i = none → ¬ i ∈ σ
    | [], i, _, h => by simp at h
    | j :: l, i, h, hm => by
      unfold ix at h
      split at h
      · cases h
      · rename_i hne
        rcases List.mem_cons.1 hm with hm | hm
        · exact hne hm
        · exact ix_none (by simpa using h) hm

theorem AVR.sub {W : Wit} {R : List Res} {w : World} {σ : List Nat} (hs : Sep w W R) (ho : okσ 0 R σ = true) {x : AV} {v : Value} (h : AVR W R w x v) : AVR (W.ren 0 σ) (reR 0 σ R) w (x.sub R σ) v := by
  cases x with
  | c x => exact AR.sub hs ho (show AR W R w [x] [v] from h)
  | agg xs =>
    obtain ⟨vs, e, h⟩ := h
    exact ⟨vs, e, h.sub hs ho⟩
  | tup xs => trivial
  | any => trivial

end Go.Proofs.Ytkaikajjhhnifaa.E
