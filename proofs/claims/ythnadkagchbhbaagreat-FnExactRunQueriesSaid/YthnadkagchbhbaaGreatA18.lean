/- Walks through functions, by program out of the session's annotations. -/
import Derived.Test.YthnadkagchbhbaaGreatF2
namespace Go.Proofs.YthnadkagchbhbaaGreat.E
open Go Go.RowKit Go.Proofs
set_option linter.unusedVariables false
set_option linter.unusedSimpArgs false

theorem L_slice_roI {P : Program} {s : Slots} {R : List Res} {o : Oper} {t e k : Nat} {b : Bool} {x : Operand} {lo hi : Option Operand} {rows : List (List T)} {l h : Int} (ho : o.op = .slice t x lo hi none) (ht : isSlice P t = some e) (hty : tyIs P e = some (b, k)) (hx : E.ev s x = .c (.ro rows)) (hl : lov s lo = some l) (hh : hiv rows.length s hi = some h)
  (h0 : 0 ≤ l) (h1 : l ≤ h) (h2 : h ≤ rows.length) (hk : ∀ r ∈ rows, r.length = k) : Pure P o s R (.c (.ro ((rows.drop l.toNat).take (h.toNat - l.toNat)))) :=
 L_slice_ro ho ht hty hx (by rw [hl, Int.toNat_of_nonneg h0]) (by rw [hh, Int.toNat_of_nonneg (by omega)]) (by omega) (by omega) hk
def cutV (xs : List Int) (a b : Int) : List Int := (xs.drop a.toNat).take (b.toNat - a.toNat)

end Go.Proofs.YthnadkagchbhbaaGreat.E
