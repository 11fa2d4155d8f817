/- Walks through functions, by program out of the session's annotations. -/
import Derived.Test.YtjbbjicochipeaaGreatA51
import Derived.Test.YtjbbjicochipeaaGreatA14
import Derived.Test.YtjbbjicochipeaaGreatA26
namespace Go.Proofs.YtjbbjicochipeaaGreat.E
open Go Go.RowKit Go.Proofs
set_option linter.unusedVariables false
set_option linter.unusedSimpArgs false

def zpC (c:Crk):List (Int × Int):=List.zip c.vals c.rows
def crkZ (Z:List (Int × Int)) (P:List (Int × Int)):Crk:=⟨Z.map (·.1),Z.map (·.2),P⟩
/-- What it is that a column of pairs is valid. -/
structure ZOk (Z P : List (Int × Int)) : Prop where
 vl:Z.length≤64
 el:∀ z ∈ Z,(-999≤z.1∧z.1≤999)∧0≤z.2∧z.2≤999
 nd:(Z.map (·.2)).Nodup
 pv:∀ p ∈ P,-1000≤p.1∧p.1≤1000∧0≤p.2∧p.2≤Z.length ∧ ∀ (q:Nat) (z:Int × Int),Z[q]? = some z→(z.1<p.1↔(q:Int)<p.2)
 so:sorted1 P
theorem mapZ_at {Z : List (Int × Int)} {q : Nat} (h : q < Z.length) : ∃ z, Z[q]? = some z ∧ (Z.map (·.1)).getD q 0 = z.1 ∧ (Z.map (·.2)).getD q 0 = z.2 := by
 refine⟨Z[q],List.getElem?_eq_getElem h,?_,?_⟩<;>simp [List.getD_eq_getElem?_getD,h]
theorem ZOk.ok {Z P : List (Int × Int)} (h : ZOk Z P) : CrkOk (crkZ Z P) := by
 refine⟨by simpa [crkZ] using h.vl,fun q hq=>?_,by simp [crkZ],fun q hq=>?_,fun q r hq hr e=>?_,fun p hp=>?_,h.so⟩
 ·obtain ⟨z, h1, h2, h3⟩ := mapZ_at (Z := Z) (q := q) (by simpa [crkZ] using hq)
  show -999≤(Z.map (·.1)).getD q 0∧(Z.map (·.1)).getD q 0≤999
  rw [h2];exact (h.el z (List.mem_of_getElem? h1)).1
 ·obtain ⟨z, h1, h2, h3⟩ := mapZ_at (Z := Z) (q := q) (by simpa [crkZ] using hq)
  show 0≤(Z.map (·.2)).getD q 0∧(Z.map (·.2)).getD q 0≤999
  rw [h3];exact (h.el z (List.mem_of_getElem? h1)).2
 ·have hq' : q < (Z.map (·.2)).length := by simpa [crkZ] using hq
  have hr':r<(Z.map (·.2)).length:=by simpa [crkZ] using hr
  have e' : (Z.map (·.2))[q] = (Z.map (·.2))[r] := by
   have e1:(Z.map (·.2)).getD q 0=(Z.map (·.2)).getD r 0:=e
   simpa [List.getD_eq_getElem?_getD,List.getElem?_eq_getElem hq',List.getElem?_eq_getElem hr'] using e1
  rcases Nat.lt_trichotomy q r with hlt|rfl|hlt
  ·exact absurd e' (List.pairwise_iff_getElem.1 h.nd q r hq' hr' hlt)
  ·rfl
  exact absurd e'.symm (List.pairwise_iff_getElem.1 h.nd r q hr' hq' hlt)
 obtain ⟨h1, h2, h3, h4, h5⟩ := h.pv p hp
 refine⟨h1,h2,h3,by simpa [crkZ] using h4,fun q hq=>?_⟩
 obtain⟨z,k1,k2,_⟩:=mapZ_at (Z:=Z) (q:=q) (by simpa [crkZ] using hq)
 show (Z.map (·.1)).getD q 0<p.1↔_
 rw [k2];exact h5 q z k1
theorem CrkOk.z {c : Crk} (h : CrkOk c) : ZOk (zpC c) c.piv := by
 have hl:(zpC c).length=c.vals.length:=by simp [zpC,h.rl]
 have hat : ∀ {q : Nat} {z : Int × Int}, (zpC c)[q]? = some z → q < c.vals.length ∧ c.vals.getD q 0 = z.1 ∧ c.rows.getD q 0 = z.2 := by
  intro q z hz
  have hq : q < (zpC c).length := by
   rcases Nat.lt_or_ge q (zpC c).length with h'|h'
   ·exact h'
   rw [List.getElem?_eq_none h'] at hz;cases hz
  rw [hl] at hq
  simp only [zpC] at hz
  rw [List.getElem?_zip_eq_some] at hz
  exact⟨hq,getD_of hz.1,getD_of hz.2⟩
 refine⟨by rw [hl];exact h.vl,fun z hz=>?_,?_,fun p hp=>?_,h.so⟩
 ·obtain ⟨q, hq⟩ := List.getElem?_of_mem hz
  obtain⟨h1,h2,h3⟩:=hat hq
  have:=h.vr q h1
  have:=h.rr q h1
  rw [h2] at *
  rw [h3] at *
  omega
 ·have e : (zpC c).map (·.2) = c.rows := List.map_snd_zip (l₁ := c.vals) (l₂ := c.rows) (by have := h.rl; omega)
  rw [e]
  refine List.pairwise_iff_getElem.2 fun i j hi hj hij he=>?_
  have:=h.ri i j (by have:=h.rl;omega) (by have:=h.rl;omega) (by simpa [List.getD_eq_getElem?_getD,List.getElem?_eq_getElem hi,List.getElem?_eq_getElem hj] using he)
  omega
 obtain ⟨h1, h2, h3, h4, h5⟩ := h.pv p hp
 refine⟨h1,h2,h3,by rw [hl];exact h4,fun q z hz=>?_⟩
 obtain⟨k1,k2,_⟩:=hat hz
 rw [← k2];exact h5 q k1
theorem perm_at {α : Type} {l : List α} {i : Nat} {x : α} (h : l[i]? = some x) : l.Perm (x :: l.eraseIdx i) := by
 induction l generalizing i with
 | nil=>simp at h
 | cons y l ih =>
  cases i with
  | zero =>
   obtain rfl:y=x:=by simpa using h
   simp
  | succ i =>
   have:=ih (i:=i) (by simpa using h)
   simp only [List.eraseIdx_cons_succ]
   exact (List.Perm.cons y this).trans (List.Perm.swap ..)
theorem erase_set {α : Type} : ∀ (l : List α) (i : Nat) (x : α), (l.set i x).eraseIdx i = l.eraseIdx i
 | [],_,_=>rfl
 | y::l,0,x=>rfl
 | y::l,i+1,x=>by simp [erase_set l i x]
theorem perm_set {α : Type} {l : List α} {i : Nat} (x : α) (h : i < l.length) : (l.set i x).Perm (x :: l.eraseIdx i) := by
 have:=perm_at (l:=l.set i x) (i:=i) (x:=x) (by simp [h])
 rwa [erase_set] at this
/-! insertion -/
structure InsI (c P : List (Int × Int)) (Zc : List (Int × Int)) (x : Int) (k : Nat) (Z : List (Int × Int)) (h : Nat) : Prop where
 zl:Z.length=Zc.length+1
 pl:P.length=c.length
 kl:k≤c.length
 hn:h≤Zc.length
 lo:∀ j,j<k→P[j]? = c[j]?
 hi:∀ j p,k≤j→c[j]? = some p→P[j]? = some (p.1,p.2+1)∧x<p.1∧(h:Int)≤p.2
 un:∀ j p,j<k→c[j]? = some p→p.2≤h
 pe:(Z.eraseIdx h).Perm Zc
 sd:∀ i z,i ≠ h→Z[i]? = some z → ∀ j p,c[j]? = some p→(z.1<p.1↔(i:Int)<p.2+if k≤j then 1 else 0)
/-! deletion -/
structure DelI (c P Zc : List (Int × Int)) (v : Int) (h0 k : Nat) (Z : List (Int × Int)) (h : Nat) : Prop where
 zl:Z.length=Zc.length
 pl:P.length=c.length
 hn:h0≤h∧h<Zc.length
 lo:∀ j,k≤j→P[j]? = c[j]?
 hi:∀ j p,j<k→c[j]? = some p→P[j]? = some (p.1,p.2 - if v<p.1 then 1 else 0)∧(v<p.1→p.2 - 1≤h)
 un:∀ j p,k≤j→c[j]? = some p→v<p.1→(h:Int)≤p.2 - 1
 pe:(Z.eraseIdx h).Perm (Zc.eraseIdx h0)
 sd:∀ i z,i ≠ h→Z[i]? = some z → ∀ j p,c[j]? = some p→(z.1<p.1↔(i:Int)<p.2 - if j<k∧v<p.1 then 1 else 0)
structure PndOk (c : Crk) (p : Pnd) : Prop where
 crk:CrkOk c
 il:p.ins.length≤20
 dl:p.del.length≤20
 al:c.vals.length+p.ins.length≤64
 it:∀ x ∈ p.ins,-999≤x.1∧x.1≤999∧0≤x.2∧x.2≤999
 no:∀ x ∈ p.ins,x.2 ∉ c.rows
 ni:(p.ins.map (·.2)).Nodup
 dr:∀ w ∈ p.del,w ∈ c.rows
 nd:p.del.Nodup
theorem lt_of_at {α : Type} {l : List α} {k : Nat} {x : α} (h : l[k]? = some x) : k < l.length := by
 rcases Nat.lt_or_ge k l.length with h'|h'
 ·exact h'
 rw [List.getElem?_eq_none h'] at h;cases h
structure MDI (c : Crk) (p : Pnd) (r : Int × Int) (k : Nat) (s : Crk × List Int × Int) : Prop where
 ok:CrkOk s.1
 mem:∀ z,z ∈ zpC s.1↔z ∈ zpC c ∧ ¬ (z.2 ∈ p.del.take k∧inR r z.1=true)
 vl:s.1.vals.length≤c.vals.length
 pl:s.1.piv.length=c.piv.length
 ll:s.2.1.length≤k
 nn:0≤s.2.2∧s.2.2≤(c.piv.length+1)*k
structure MII (c : Crk) (p : Pnd) (r : Int × Int) (k : Nat) (s : Crk × List (Int × Int) × Int) : Prop where
 ok:CrkOk s.1
 mem:∀ z,z ∈ zpC s.1↔(z ∈ zpC c ∧ ¬ (z.2 ∈ p.del∧inR r z.1=true))∨(z ∈ p.ins.take k∧inR r z.1=true)
 vl:s.1.vals.length≤c.vals.length+k
 pl:s.1.piv.length=c.piv.length
 ll:s.2.1.length≤k
 nn:0≤s.2.2∧s.2.2≤(c.piv.length+1)*(p.del.length+k)
end Go.Proofs.YtjbbjicochipeaaGreat.E
