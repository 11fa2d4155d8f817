/- Walks through functions, by program out of the session's annotations. -/
import Derived.Test.YtlodlnbhjghjoaaGreatA51
import Derived.Test.YtlodlnbhjghjoaaGreatA25
namespace Go.Proofs.YtlodlnbhjghjoaaGreat.E
open Go Go.RowKit Go.Proofs
set_option linter.unusedVariables false
set_option linter.unusedSimpArgs false

def zpC (c:Crk):List (Int × Int):=List.zip c.vals c.rows
def crkZ (Z:List (Int × Int)) (P:List (Int × Int)):Crk:=⟨Z.map (·.1),Z.map (·.2),P⟩
theorem zip_crkZ (Z P : List (Int × Int)) : zpC (crkZ Z P) = Z := by
 simp only [zpC,crkZ]
 induction Z with
 | nil=>rfl
 | cons z Z ih=>simp [ih]
/-- What it is that a column of pairs is valid. -/
structure ZOk (Z P : List (Int × Int)) : Prop where
 vl:Z.length≤64
 el:∀ z ∈ Z,(-999≤z.1∧z.1≤999)∧0≤z.2∧z.2≤999
 nd:(Z.map (·.2)).Nodup
 pv:∀ p ∈ P,-1000≤p.1∧p.1≤1000∧0≤p.2∧p.2≤Z.length ∧ ∀ (q:Nat) (z:Int × Int),Z[q]? = some z→(z.1<p.1↔(q:Int)<p.2)
 so:sorted1 P
theorem mapZ_at {Z : List (Int × Int)} {q : Nat} (h : q < Z.length) : ∃ z, Z[q]? = some z ∧ (Z.map (·.1)).getD q 0 = z.1 ∧ (Z.map (·.2)).getD q 0 = z.2 := by
 refine⟨Z[q],List.getElem?_eq_getElem h,?_,?_⟩<;>simp [List.getD_eq_getElem?_getD,h]
theorem ZOk.ok {Z P : List (Int × Int)} (h : ZOk Z P) : CrkOk (crkZ Z P) := by
 refine⟨by simpa [crkZ] using h.vl,fun q hq=>?_,by simp [crkZ],fun q hq=>?_,fun q r hq hr e=>?_,fun p hp=>?_,h.so⟩
 ·obtain ⟨z, h1, h2, h3⟩ := mapZ_at (Z := Z) (q := q) (by simpa [crkZ] using hq)
  show -999≤(Z.map (·.1)).getD q 0∧(Z.map (·.1)).getD q 0≤999
  rw [h2];exact (h.el z (List.mem_of_getElem? h1)).1
 ·obtain ⟨z, h1, h2, h3⟩ := mapZ_at (Z := Z) (q := q) (by simpa [crkZ] using hq)
  show 0≤(Z.map (·.2)).getD q 0∧(Z.map (·.2)).getD q 0≤999
  rw [h3];exact (h.el z (List.mem_of_getElem? h1)).2
 ·have hq' : q < (Z.map (·.2)).length := by simpa [crkZ] using hq
  have hr':r<(Z.map (·.2)).length:=by simpa [crkZ] using hr
  have e' : (Z.map (·.2))[q] = (Z.map (·.2))[r] := by
   have e1:(Z.map (·.2)).getD q 0=(Z.map (·.2)).getD r 0:=e
   simpa [List.getD_eq_getElem?_getD,List.getElem?_eq_getElem hq',List.getElem?_eq_getElem hr'] using e1
  rcases Nat.lt_trichotomy q r with hlt|rfl|hlt
  ·exact absurd e' (List.pairwise_iff_getElem.1 h.nd q r hq' hr' hlt)
  ·rfl
  exact absurd e'.symm (List.pairwise_iff_getElem.1 h.nd r q hr' hq' hlt)
 obtain ⟨h1, h2, h3, h4, h5⟩ := h.pv p hp
 refine⟨h1,h2,h3,by simpa [crkZ] using h4,fun q hq=>?_⟩
 obtain⟨z,k1,k2,_⟩:=mapZ_at (Z:=Z) (q:=q) (by simpa [crkZ] using hq)
 show (Z.map (·.1)).getD q 0<p.1↔_
 rw [k2];exact h5 q z k1
theorem CrkOk.z {c : Crk} (h : CrkOk c) : ZOk (zpC c) c.piv := by
 have hl:(zpC c).length=c.vals.length:=by simp [zpC,h.rl]
 have hat : ∀ {q : Nat} {z : Int × Int}, (zpC c)[q]? = some z → q < c.vals.length ∧ c.vals.getD q 0 = z.1 ∧ c.rows.getD q 0 = z.2 := by
  intro q z hz
  have hq : q < (zpC c).length := by
   rcases Nat.lt_or_ge q (zpC c).length with h'|h'
   ·exact h'
   rw [List.getElem?_eq_none h'] at hz;cases hz
  rw [hl] at hq
  simp only [zpC] at hz
  rw [List.getElem?_zip_eq_some] at hz
  exact⟨hq,getD_of hz.1,getD_of hz.2⟩
 refine⟨by rw [hl];exact h.vl,fun z hz=>?_,?_,fun p hp=>?_,h.so⟩
 ·obtain ⟨q, hq⟩ := List.getElem?_of_mem hz
  obtain⟨h1,h2,h3⟩:=hat hq
  have:=h.vr q h1
  have:=h.rr q h1
  rw [h2] at *
  rw [h3] at *
  omega
 ·have e : (zpC c).map (·.2) = c.rows := List.map_snd_zip (l₁ := c.vals) (l₂ := c.rows) (by have := h.rl; omega)
  rw [e]
  refine List.pairwise_iff_getElem.2 fun i j hi hj hij he=>?_
  have:=h.ri i j (by have:=h.rl;omega) (by have:=h.rl;omega) (by simpa [List.getD_eq_getElem?_getD,List.getElem?_eq_getElem hi,List.getElem?_eq_getElem hj] using he)
  omega
 obtain ⟨h1, h2, h3, h4, h5⟩ := h.pv p hp
 refine⟨h1,h2,h3,by rw [hl];exact h4,fun q z hz=>?_⟩
 obtain⟨k1,k2,_⟩:=hat hz
 rw [← k2];exact h5 q k1
/-- A pair is moved from a place to the hole. -/
def mvZ (Z:List (Int × Int)) (h a:Nat):List (Int × Int):=if h=a then Z else Z.set h (Z.getD a (0,0))
theorem mvZ_len (Z:List (Int × Int)) (h a:Nat):(mvZ Z h a).length=Z.length:=by unfold mvZ;split<;>simp
theorem perm_at {α : Type} {l : List α} {i : Nat} {x : α} (h : l[i]? = some x) : l.Perm (x :: l.eraseIdx i) := by
 induction l generalizing i with
 | nil=>simp at h
 | cons y l ih =>
  cases i with
  | zero =>
   obtain rfl:y=x:=by simpa using h
   simp
  | succ i =>
   have:=ih (i:=i) (by simpa using h)
   simp only [List.eraseIdx_cons_succ]
   exact (List.Perm.cons y this).trans (List.Perm.swap ..)
theorem erase_set {α : Type} : ∀ (l : List α) (i : Nat) (x : α), (l.set i x).eraseIdx i = l.eraseIdx i
 | [],_,_=>rfl
 | y::l,0,x=>rfl
 | y::l,i+1,x=>by simp [erase_set l i x]
theorem perm_set {α : Type} {l : List α} {i : Nat} (x : α) (h : i < l.length) : (l.set i x).Perm (x :: l.eraseIdx i) := by
 have:=perm_at (l:=l.set i x) (i:=i) (x:=x) (by simp [h])
 rwa [erase_set] at this
theorem mvZ_perm {Z : List (Int × Int)} {h a : Nat} (hh : h < Z.length) (ha : a < Z.length) : ((mvZ Z h a).eraseIdx a).Perm (Z.eraseIdx h) := by
 unfold mvZ
 split
 ·rename_i e;subst e;exact List.Perm.refl _
 rename_i hne
 have hx:Z[a]? = some (Z.getD a (0,0)):=by simp [List.getD_eq_getElem?_getD,ha]
 have h1:=perm_set (l:=Z) (Z.getD a (0,0)) hh
 have h2:=perm_at (l:=Z.set h (Z.getD a (0,0))) (i:=a) (x:=Z.getD a (0,0)) (by rw [List.getElem?_set_ne hne];exact hx)
 exact List.Perm.cons_inv (h2.symm.trans h1)
theorem mvZ_at {Z : List (Int × Int)} {h a i : Nat} {z : Int × Int} (ha : a < Z.length) (hz : (mvZ Z h a)[i]? = some z) (hi : i ≠ a) : (i ≠ h ∧ Z[i]? = some z) ∨ (i = h ∧ Z[a]? = some z) := by
 unfold mvZ at hz
 split at hz
 ·rename_i e;subst e;exact .inl ⟨hi,hz⟩
 rename_i hne
 by_cases e:i=h
 ·subst e
  refine .inr ⟨rfl,?_⟩
  have hl : i < Z.length := by
   rcases Nat.lt_or_ge i Z.length with h'|h'
   ·exact h'
   rw [List.getElem?_eq_none (by simpa using h')] at hz;cases hz
  rw [List.getElem?_set_self hl] at hz
  rw [← hz];simp [List.getD_eq_getElem?_getD,ha]
 exact .inl ⟨e,by rwa [List.getElem?_set_ne (Ne.symm e)] at hz⟩

/-! insertion -/
def insZ (x : Int) : Nat → List (Int × Int) → List (Int × Int) → Nat → Int → List (Int × Int) × List (Int × Int) × Nat × Int
 | 0,Z,P,h,m=>(Z,P,h,m)
 | k+1,Z,P,h,m=>if x<(P.getD k (0,0)).1 then insZ x k (mvZ Z h (P.getD k (0,0)).2.toNat) (P.set k ((P.getD k (0,0)).1,(P.getD k (0,0)).2+1)) (P.getD k (0,0)).2.toNat (m+if h=(P.getD k (0,0)).2.toNat then 0 else 1) else (Z,P,h,m)
/-- What is in the hole does not matter. -/
theorem insZ_cong (x : Int) : ∀ (k : Nat) (Z Z' P : List (Int × Int)) (h : Nat) (m : Int), (∀ y, Z.set h y = Z'.set h y) → (insZ x k Z P h m).2 = (insZ x k Z' P h m).2 ∧ ∀ y, (insZ x k Z P h m).1.set (insZ x k Z P h m).2.2.1 y = (insZ x k Z' P h m).1.set (insZ x k Z P h m).2.2.1 y
 | 0,Z,Z',P,h,m,hz=>⟨rfl,hz⟩
 | k + 1, Z, Z', P, h, m, hz => by
  rw [insZ,insZ]
  split
  ·refine insZ_cong x k _ _ _ _ _ fun y => ?_
   unfold mvZ
   split
   ·rename_i e;rw [← e];exact hz y
   rename_i hne
   have e : Z.getD (P.getD k (0, 0)).2.toNat (0, 0) = Z'.getD (P.getD k (0, 0)).2.toNat (0, 0) := by
    generalize (P.getD k (0,0)).2.toNat=a at hne ⊢
    have:=congrArg (fun l=>l.getD a (0,0)) (hz (0,0))
    simpa [List.getD_eq_getElem?_getD,List.getElem?_set_ne hne] using this
   rw [e,hz]
  exact⟨rfl,hz⟩
structure InsI (c P : List (Int × Int)) (Zc : List (Int × Int)) (x : Int) (k : Nat) (Z : List (Int × Int)) (h : Nat) : Prop where
 zl:Z.length=Zc.length+1
 pl:P.length=c.length
 kl:k≤c.length
 hn:h≤Zc.length
 lo:∀ j,j<k→P[j]? = c[j]?
 hi:∀ j p,k≤j→c[j]? = some p→P[j]? = some (p.1,p.2+1)∧x<p.1∧(h:Int)≤p.2
 un:∀ j p,j<k→c[j]? = some p→p.2≤h
 pe:(Z.eraseIdx h).Perm Zc
 sd:∀ i z,i ≠ h→Z[i]? = some z → ∀ j p,c[j]? = some p→(z.1<p.1↔(i:Int)<p.2+if k≤j then 1 else 0)
theorem insI_step {c P Zc Z : List (Int × Int)} {x : Int} {k h : Nat} (so : sorted1 c) (hb : ∀ p ∈ c, 0 ≤ p.2 ∧ p.2 ≤ Zc.length) (I : InsI c P Zc x (k + 1) Z h) {p : Int × Int} (hp : c[k]? = some p) (hx : x < p.1) :
  InsI c (P.set k (p.1,p.2+1)) Zc x k (mvZ Z h p.2.toNat) p.2.toNat:=by
 obtain⟨b1,b2⟩:=hb p (List.mem_of_getElem? hp)
 have hle:=I.un k p (by omega) hp
 have hkl:=I.kl
 have hal:p.2.toNat<Z.length:=by have:=I.zl;omega
 have hhl:h<Z.length:=by have:=I.zl;have:=I.hn;omega
 have hk:k<P.length:=by rw [I.pl];omega
 refine⟨by rw [mvZ_len];exact I.zl,by simpa using I.pl,by omega,by omega,fun j hj=>?_,fun j q hj hq=>?_,fun j q hj hq=>?_,(mvZ_perm hhl hal).trans I.pe,fun i z hi hz j q hq=>?_⟩
 ·rw [List.getElem?_set_ne (by omega)];exact I.lo j (by omega)
 ·rcases Nat.eq_or_lt_of_le hj with e | e
  ·subst e
   rw [hp] at hq
   obtain rfl:=Option.some.inj hq
   exact⟨by rw [List.getElem?_set_self hk],hx,by omega⟩
  obtain ⟨h1, h2, h3⟩ := I.hi j q (by omega) hq
  exact⟨by rw [List.getElem?_set_ne (by omega)];exact h1,h2,by omega⟩
 ·have:=(so j k q p hj hq hp).2;omega
 rcases mvZ_at hal hz hi with ⟨g1, g2⟩ | ⟨g1, g2⟩
 ·have := I.sd i z g1 g2 j q hq
  rw [this]
  rcases Nat.lt_trichotomy j k with e|e|e
  ·rw [if_neg (by omega),if_neg (by omega)]
  ·subst e
   rw [hp] at hq
   obtain rfl:=Option.some.inj hq
   rw [if_neg (by omega),if_pos (by omega)];omega
  rw [if_pos (by omega),if_pos (by omega)]
 subst g1
 have:=I.sd p.2.toNat z (by omega) g2 j q hq
 rw [this]
 rcases Nat.lt_trichotomy j k with e|e|e
 ·have := (so j k q p e hq hp).2
  rw [if_neg (by omega),if_neg (by omega)];omega
 ·subst e
  rw [hp] at hq
  obtain rfl:=Option.some.inj hq
  rw [if_neg (by omega),if_pos (by omega)];omega
 have := (I.hi j q (by omega) hq).2.2
 rw [if_pos (by omega),if_pos (by omega)];omega
theorem insZ_inv {c Zc : List (Int × Int)} {x : Int} (so : sorted1 c) (hb : ∀ p ∈ c, 0 ≤ p.2 ∧ p.2 ≤ Zc.length) : ∀ (k : Nat) (P Z : List (Int × Int)) (h : Nat) (m : Int), InsI c P Zc x k Z h → ∃ k', InsI c (insZ x k Z P h m).2.1 Zc x k' (insZ x k Z P h m).1 (insZ x k Z P h m).2.2.1 ∧ ∀ j p, j < k' → c[j]? = some p → p.1 ≤ x
 | 0,P,Z,h,m,I=>⟨0,I,fun j p hj=>by omega⟩
 | k + 1, P, Z, h, m, I => by
  have hkl:=I.kl
  obtain⟨p,hp⟩:∃ p,c[k]? = some p:=⟨_,List.getElem?_eq_getElem (by omega)⟩
  have e:P.getD k (0,0)=p:=getD_of (by rw [I.lo k (by omega)];exact hp)
  rw [insZ,e]
  split
  ·rename_i hx
   exact insZ_inv so hb k _ _ _ _ (insI_step so hb I hp hx)
  rename_i hx
  refine⟨k+1,I,fun j q hj hq=>?_⟩
  rcases Nat.eq_or_lt_of_le (show j≤k by omega) with e|e
  ·subst e;rw [hp] at hq;obtain rfl:=Option.some.inj hq;omega
  have:=(so j k q p e hq hp).1;omega
def insR (c:Crk) (x:Int × Int) (g:Int × Int):List (Int × Int) × List (Int × Int) × Nat × Int:=insZ x.1 c.piv.length (zpC c++[g]) c.piv c.vals.length 0
/-- What an insertion leaves. -/
def ripI (c:Crk) (x:Int × Int):Crk:=crkZ ((insR c x x).1.set (insR c x x).2.2.1 x) (insR c x x).2.1
def ripIn (c:Crk) (x:Int × Int):Int:=(insR c x x).2.2.2
theorem insR_cong (c : Crk) (x g : Int × Int) (hl : c.rows.length = c.vals.length) : (insR c x g).2 = (insR c x x).2 ∧ (insR c x g).1.set (insR c x g).2.2.1 x = (insR c x x).1.set (insR c x x).2.2.1 x := by
 have hz:(zpC c).length=c.vals.length:=by simp [zpC,hl]
 have := insZ_cong x.1 c.piv.length (zpC c ++ [g]) (zpC c ++ [x]) c.piv c.vals.length 0 (fun y => by
  rw [← hz,List.set_append_right (h:=Nat.le_refl _),List.set_append_right (h:=Nat.le_refl _),Nat.sub_self];rfl)
 refine⟨this.1,?_⟩
 have h1:=this.2 x
 rw [insR,insR,h1,this.1]
theorem mem_perm_el {Z W:List (Int × Int)} (h:Z.Perm W) (P:Int × Int→Prop):(∀ z ∈ W,P z) → ∀ z ∈ Z,P z:=fun k z hz=>k z (h.mem_iff.1 hz)
theorem ripI_ok {c : Crk} {x : Int × Int} (hc : CrkOk c) (hx : -999 ≤ x.1 ∧ x.1 ≤ 999 ∧ 0 ≤ x.2 ∧ x.2 ≤ 999) (hr : x.2 ∉ c.rows) (hl : c.vals.length < 64) : CrkOk (ripI c x) ∧ (zpC (ripI c x)).Perm (x :: zpC c) := by
 have hz:(zpC c).length=c.vals.length:=by simp [zpC,hc.rl]
 have hzo:=hc.z
 have hb:∀ p ∈ c.piv,0≤p.2∧p.2≤(zpC c).length:=fun p hp=>⟨(hzo.pv p hp).2.2.1,(hzo.pv p hp).2.2.2.1⟩
 have I0 : InsI c.piv c.piv (zpC c) x.1 c.piv.length (zpC c ++ [x]) c.vals.length := by
  refine⟨by simp,rfl,Nat.le_refl _,by omega,fun _ _=>rfl,fun j p hj hp=>?_,fun j p hj hp=>?_,?_,fun i z hi hzz j p hp=>?_⟩
  ·rw [List.getElem?_eq_none hj] at hp;cases hp
  ·have:=(hb p (List.mem_of_getElem? hp)).2;omega
  ·rw [← hz,List.eraseIdx_append_of_length_le (Nat.le_refl _),Nat.sub_self];simp
  have hj : j < c.piv.length := by
   rcases Nat.lt_or_ge j c.piv.length with h'|h'
   ·exact h'
   rw [List.getElem?_eq_none h'] at hp;cases hp
  rw [if_neg (by omega),Int.add_zero]
  refine (hzo.pv p (List.mem_of_getElem? hp)).2.2.2.2 i z ?_
  have hi2 : i < (zpC c ++ [x]).length := by
   rcases Nat.lt_or_ge i (zpC c++[x]).length with h'|h'
   ·exact h'
   rw [List.getElem?_eq_none h'] at hzz;cases hzz
  rwa [List.getElem?_append_left (by simp at hi2;omega)] at hzz
 obtain⟨k,I,hk⟩:=insZ_inv hc.so hb c.piv.length c.piv _ _ 0 I0
 have I:InsI c.piv (insR c x x).2.1 (zpC c) x.1 k (insR c x x).1 (insR c x x).2.2.1:=I
 unfold ripI
 rw [zip_crkZ]
 generalize insR c x x=q at I ⊢
 obtain⟨Z,P,h,m⟩:=q
 dsimp only at I ⊢
 have hpe:(Z.set h x).Perm (x::zpC c):=(perm_set x (by have:=I.zl;have:=I.hn;omega)).trans (List.Perm.cons x I.pe)
 refine⟨ZOk.ok ⟨by rw [List.length_set,I.zl];omega,mem_perm_el hpe _ fun z hzz=>?_,?_,fun p hp=>?_,?_⟩,hpe⟩
 ·rcases List.mem_cons.1 hzz with rfl | hzz
  ·omega
  exact hzo.el z hzz
 ·refine (hpe.map (·.2)).nodup_iff.2 ?_
  rw [List.map_cons,List.nodup_cons]
  refine⟨?_,hzo.nd⟩
  have e:(zpC c).map (·.2)=c.rows:=List.map_snd_zip (l₁:=c.vals) (l₂:=c.rows) (by have:=hc.rl;omega)
  rw [e];exact hr
 ·obtain ⟨j, hj⟩ := List.getElem?_of_mem hp
  have hjl : j < c.piv.length := by
   rcases Nat.lt_or_ge j c.piv.length with h'|h'
   ·exact h'
   rw [List.getElem?_eq_none (by rw [I.pl];exact h')] at hj;cases hj
  obtain⟨q,hq⟩:∃ q,c.piv[j]? = some q:=⟨_,List.getElem?_eq_getElem hjl⟩
  obtain⟨b1,b2,b3,b4,b5⟩:=hzo.pv q (List.mem_of_getElem? hq)
  have hpq : p = (q.1, q.2 + if k ≤ j then 1 else 0) := by
   rcases Nat.lt_or_ge j k with e|e
   ·rw [I.lo j e,hq] at hj;rw [if_neg (by omega),Int.add_zero];exact (Option.some.inj hj).symm
   rw [(I.hi j q e hq).1] at hj;rw [if_pos e];exact (Option.some.inj hj).symm
  subst hpq
  have zl:=I.zl
  refine⟨b1,b2,by dsimp only;split<;>omega,by dsimp only;rw [List.length_set];split<;>omega,fun i z hzz=>?_⟩
  by_cases e:i=h
  ·subst e
   rw [List.getElem?_set_self (by have:=I.hn;omega)] at hzz
   obtain rfl:=Option.some.inj hzz
   dsimp only
   rcases Nat.lt_or_ge j k with e|e
   ·have h1 := hk j q e hq
    have h2:=I.un j q e hq
    rw [if_neg (by omega)];omega
   have h1 := I.hi j q e hq
   rw [if_pos e];omega
  rw [List.getElem?_set_ne (Ne.symm e)] at hzz
  exact I.sd i z e hzz j q hq
 intro i j p q hij hp hq
 have hat : ∀ {j : Nat} {p : Int × Int}, P[j]? = some p → ∃ q, c.piv[j]? = some q ∧ p = (q.1, q.2 + if k ≤ j then 1 else 0) := by
  intro j p hj
  have hjl : j < c.piv.length := by
   rcases Nat.lt_or_ge j c.piv.length with h'|h'
   ·exact h'
   rw [List.getElem?_eq_none (by rw [I.pl];exact h')] at hj;cases hj
  obtain⟨q,hq⟩:∃ q,c.piv[j]? = some q:=⟨_,List.getElem?_eq_getElem hjl⟩
  refine⟨q,hq,?_⟩
  rcases Nat.lt_or_ge j k with e|e
  ·rw [I.lo j e,hq] at hj;rw [if_neg (by omega),Int.add_zero];exact (Option.some.inj hj).symm
  rw [(I.hi j q e hq).1] at hj;rw [if_pos e];exact (Option.some.inj hj).symm
 obtain⟨p',hp',rfl⟩:=hat hp
 obtain⟨q',hq',rfl⟩:=hat hq
 have:=hc.so i j p' q' hij hp' hq'
 dsimp only
 refine⟨this.1,?_⟩
 split<;>split<;>omega
/-! deletion -/
def delZ (v : Int) : Nat → Nat → List (Int × Int) → List (Int × Int) → Nat → Int → List (Int × Int) × List (Int × Int) × Nat × Int
 | 0,_,Z,P,h,m=>(Z,P,h,m)
 | f+1,k,Z,P,h,m=>if (P.getD k (0,0)).1≤v then delZ v f (k+1) Z P h m else delZ v f (k+1) (mvZ Z h ((P.getD k (0,0)).2 - 1).toNat) (P.set k ((P.getD k (0,0)).1,(P.getD k (0,0)).2 - 1)) ((P.getD k (0,0)).2 - 1).toNat (m+if h=((P.getD k (0,0)).2 - 1).toNat then 0 else 1)
structure DelI (c P Zc : List (Int × Int)) (v : Int) (h0 k : Nat) (Z : List (Int × Int)) (h : Nat) : Prop where
 zl:Z.length=Zc.length
 pl:P.length=c.length
 hn:h0≤h∧h<Zc.length
 lo:∀ j,k≤j→P[j]? = c[j]?
 hi:∀ j p,j<k→c[j]? = some p→P[j]? = some (p.1,p.2 - if v<p.1 then 1 else 0)∧(v<p.1→p.2 - 1≤h)
 un:∀ j p,k≤j→c[j]? = some p→v<p.1→(h:Int)≤p.2 - 1
 pe:(Z.eraseIdx h).Perm (Zc.eraseIdx h0)
 sd:∀ i z,i ≠ h→Z[i]? = some z → ∀ j p,c[j]? = some p→(z.1<p.1↔(i:Int)<p.2 - if j<k∧v<p.1 then 1 else 0)
theorem delI_step {c P Zc Z : List (Int × Int)} {v : Int} {h0 k h : Nat} (so : sorted1 c) (hb : ∀ p ∈ c, 0 ≤ p.2 ∧ p.2 ≤ Zc.length ∧ (v < p.1 ↔ (h0 : Int) < p.2)) (I : DelI c P Zc v h0 k Z h) {p : Int × Int} (hp : c[k]? = some p) (hx : v < p.1) :
  DelI c (P.set k (p.1,p.2 - 1)) Zc v h0 (k+1) (mvZ Z h (p.2 - 1).toNat) (p.2 - 1).toNat:=by
 obtain⟨b1,b2,b3⟩:=hb p (List.mem_of_getElem? hp)
 have b4:=b3.1 hx
 have hle:=I.un k p (Nat.le_refl _) hp hx
 have hnn:=I.hn
 have hal:(p.2 - 1).toNat<Z.length:=by have:=I.zl;omega
 have hhl:h<Z.length:=by have:=I.zl;omega
 have hk : k < P.length := by
  rw [I.pl]
  rcases Nat.lt_or_ge k c.length with h'|h'
  ·exact h'
  rw [List.getElem?_eq_none h'] at hp;cases hp
 refine⟨by rw [mvZ_len];exact I.zl,by simpa using I.pl,by omega,fun j hj=>?_,fun j q hj hq=>?_,fun j q hj hq hv=>?_,(mvZ_perm hhl hal).trans I.pe,fun i z hi hz j q hq=>?_⟩
 ·rw [List.getElem?_set_ne (by omega)];exact I.lo j (by omega)
 ·rcases Nat.eq_or_lt_of_le (show j ≤ k by omega) with e | e
  ·subst e
   rw [hp] at hq
   obtain rfl:=Option.some.inj hq
   exact⟨by rw [List.getElem?_set_self hk,if_pos hx],by omega⟩
  obtain ⟨h1, h2⟩ := I.hi j q e hq
  exact⟨by rw [List.getElem?_set_ne (by omega)];exact h1,fun hv=>by have:=h2 hv;omega⟩
 ·have:=(so k j p q (by omega) hp hq).2;omega
 rcases mvZ_at hal hz hi with ⟨g1, g2⟩ | ⟨g1, g2⟩
 ·have := I.sd i z g1 g2 j q hq
  rw [this]
  rcases Nat.lt_trichotomy j k with e|e|e
  ·by_cases hv : v < q.1
   ·rw [if_pos ⟨e,hv⟩,if_pos ⟨by omega,hv⟩]
   rw [if_neg (fun h=>hv h.2),if_neg (fun h=>hv h.2)]
  ·subst e
   rw [hp] at hq
   obtain rfl:=Option.some.inj hq
   rw [if_neg (by omega),if_pos ⟨by omega,hx⟩];omega
  rw [if_neg (by omega),if_neg (by omega)]
 subst g1
 have:=I.sd (p.2 - 1).toNat z (by omega) g2 j q hq
 rw [this]
 rcases Nat.lt_trichotomy j k with e|e|e
 ·by_cases hv : v < q.1
  ·have := (I.hi j q e hq).2 hv
   rw [if_pos ⟨e,hv⟩,if_pos ⟨by omega,hv⟩];omega
  have := (hb q (List.mem_of_getElem? hq)).2.2
  rw [if_neg (fun h=>hv h.2),if_neg (fun h=>hv h.2)];omega
 ·subst e
  rw [hp] at hq
  obtain rfl:=Option.some.inj hq
  rw [if_neg (by omega),if_pos ⟨by omega,hx⟩];omega
 have := (so k j p q e hp hq)
 rw [if_neg (by omega),if_neg (by omega)];omega
theorem delI_skip {c P Zc Z : List (Int × Int)} {v : Int} {h0 k h : Nat} (I : DelI c P Zc v h0 k Z h) {p : Int × Int} (hp : c[k]? = some p) (hx : p.1 ≤ v) : DelI c P Zc v h0 (k + 1) Z h := by
 refine⟨I.zl,I.pl,I.hn,fun j hj=>I.lo j (by omega),fun j q hj hq=>?_,fun j q hj=>I.un j q (by omega),I.pe,fun i z hi hz j q hq=>?_⟩
 ·rcases Nat.eq_or_lt_of_le (show j ≤ k by omega) with e | e
  ·subst e
   rw [hp] at hq
   obtain rfl:=Option.some.inj hq
   exact⟨by rw [I.lo j (Nat.le_refl _),hp,if_neg (by omega),Int.sub_zero],by omega⟩
  exact I.hi j q e hq
 rw [I.sd i z hi hz j q hq]
 by_cases e:j=k
 ·subst e
  rw [hp] at hq
  obtain rfl:=Option.some.inj hq
  rw [if_neg (by omega),if_neg (by omega)]
 by_cases hv : j < k ∧ v < q.1
 ·rw [if_pos hv,if_pos ⟨by omega,hv.2⟩]
 rw [if_neg hv,if_neg (by omega)]
theorem delZ_inv {c Zc : List (Int × Int)} {v : Int} {h0 : Nat} (so : sorted1 c) (hb : ∀ p ∈ c, 0 ≤ p.2 ∧ p.2 ≤ Zc.length ∧ (v < p.1 ↔ (h0 : Int) < p.2)) : ∀ (f k : Nat) (P Z : List (Int × Int)) (h : Nat) (m : Int), k + f = c.length → DelI c P Zc v h0 k Z h → DelI c (delZ v f k Z P h m).2.1 Zc v h0 c.length (delZ v f k Z P h m).1 (delZ v f k Z P h m).2.2.1
 | 0,k,P,Z,h,m,hk,I=>by rw [Nat.add_zero] at hk;subst hk;exact I
 | f + 1, k, P, Z, h, m, hk, I => by
  obtain⟨p,hp⟩:∃ p,c[k]? = some p:=⟨_,List.getElem?_eq_getElem (by omega)⟩
  have e:P.getD k (0,0)=p:=getD_of (by rw [I.lo k (Nat.le_refl _)];exact hp)
  rw [delZ,e]
  split
  ·rename_i hx
   exact delZ_inv so hb f (k+1) _ _ _ _ (by omega) (delI_skip I hp hx)
  rename_i hx
  exact delZ_inv so hb f (k+1) _ _ _ _ (by omega) (delI_step so hb I hp (by omega))
def delRz (c:Crk) (h0:Nat):List (Int × Int) × List (Int × Int) × Nat × Int:=delZ (c.vals.getD h0 0) c.piv.length 0 (zpC c) c.piv h0 0
/-- What a deletion leaves, the place known. -/
def ripD (c:Crk) (h0:Nat):Crk:=crkZ ((mvZ (delRz c h0).1 (delRz c h0).2.2.1 (c.vals.length - 1)).take (c.vals.length - 1)) (delRz c h0).2.1
def ripDn (c:Crk) (h0:Nat):Int:=(delRz c h0).2.2.2+if (delRz c h0).2.2.1=c.vals.length - 1 then 0 else 1
theorem take_erase {α : Type} : ∀ (l : List α) (n : Nat), l.length = n + 1 → l.eraseIdx n = l.take n
 | [],n,h=>by simp at h
 | x :: l, 0, h => by
  have:l=[]:=List.eq_nil_of_length_eq_zero (by simpa using h)
  subst this;rfl
 | x::l,n+1,h=>by simp [take_erase l n (by simpa using h)]
theorem ripD_ok {c : Crk} {h0 : Nat} (hc : CrkOk c) (hh : h0 < c.vals.length) : CrkOk (ripD c h0) ∧ (zpC (ripD c h0)).Perm ((zpC c).eraseIdx h0) := by
 have hz:(zpC c).length=c.vals.length:=by simp [zpC,hc.rl]
 have hzo:=hc.z
 have hv0 : ∀ z, (zpC c)[h0]? = some z → z.1 = c.vals.getD h0 0 := fun z hz => by
  simp only [zpC] at hz
  rw [List.getElem?_zip_eq_some] at hz
  exact (getD_of hz.1).symm
 obtain⟨z0,hz0⟩:∃ z,(zpC c)[h0]? = some z:=⟨_,List.getElem?_eq_getElem (by omega)⟩
 have hb : ∀ p ∈ c.piv, 0 ≤ p.2 ∧ p.2 ≤ (zpC c).length ∧ (c.vals.getD h0 0 < p.1 ↔ (h0 : Int) < p.2) := fun p hp => by
  obtain⟨_,_,h3,h4,h5⟩:=hzo.pv p hp
  exact⟨h3,h4,by rw [← hv0 z0 hz0];exact h5 h0 z0 hz0⟩
 have I0 : DelI c.piv c.piv (zpC c) (c.vals.getD h0 0) h0 0 (zpC c) h0 := by
  refine⟨rfl,rfl,⟨Nat.le_refl _,by omega⟩,fun _ _=>rfl,fun j p hj=>by omega,fun j p _ hp hv=>?_,List.Perm.refl _,fun i z hi hzz j p hp=>?_⟩
  ·have:=(hb p (List.mem_of_getElem? hp)).2.2.1 hv;omega
  rw [if_neg (by omega), Int.sub_zero]
  exact (hzo.pv p (List.mem_of_getElem? hp)).2.2.2.2 i z hzz
 have I:=delZ_inv hc.so hb c.piv.length 0 c.piv _ _ 0 (by omega) I0
 have I:DelI c.piv (delRz c h0).2.1 (zpC c) (c.vals.getD h0 0) h0 c.piv.length (delRz c h0).1 (delRz c h0).2.2.1:=I
 unfold ripD
 rw [zip_crkZ]
 generalize delRz c h0=q at I ⊢
 obtain⟨Z,P,h,m⟩:=q
 dsimp only at I ⊢
 generalize hvv:c.vals.getD h0 0=v at *
 have hn:=I.hn
 have hzl:=I.zl
 have hl1:(mvZ Z h (c.vals.length - 1)).length=c.vals.length - 1+1:=by rw [mvZ_len];omega
 have hpe : ((mvZ Z h (c.vals.length - 1)).take (c.vals.length - 1)).Perm ((zpC c).eraseIdx h0) := by
  rw [← take_erase _ _ hl1]
  exact (mvZ_perm (by omega) (by omega)).trans I.pe
 have hle:((mvZ Z h (c.vals.length - 1)).take (c.vals.length - 1)).length=c.vals.length - 1:=by rw [List.length_take];omega
 have hsub:∀ z ∈ (zpC c).eraseIdx h0,z ∈ zpC c:=fun z hz=>List.mem_of_mem_eraseIdx hz
 have hat : ∀ {j : Nat} {p : Int × Int}, P[j]? = some p → ∃ q, c.piv[j]? = some q ∧ p = (q.1, q.2 - if v < q.1 then 1 else 0) := by
  intro j p hj
  have hjl : j < c.piv.length := by
   rcases Nat.lt_or_ge j c.piv.length with h'|h'
   ·exact h'
   rw [List.getElem?_eq_none (by rw [I.pl];exact h')] at hj;cases hj
  obtain⟨q,hq⟩:∃ q,c.piv[j]? = some q:=⟨_,List.getElem?_eq_getElem hjl⟩
  refine⟨q,hq,?_⟩
  rw [(I.hi j q hjl hq).1] at hj
  exact (Option.some.inj hj).symm
 refine⟨ZOk.ok ⟨by rw [hle];have:=hc.vl;omega,mem_perm_el hpe _ fun z hzz=>hzo.el z (hsub z hzz),?_,fun p hp=>?_,?_⟩,hpe⟩
 ·refine (hpe.map (·.2)).nodup_iff.2 ?_
  exact List.Nodup.sublist (List.Sublist.map _ (List.eraseIdx_sublist ..)) hzo.nd
 ·obtain ⟨j, hj⟩ := List.getElem?_of_mem hp
  obtain⟨q,hq,rfl⟩:=hat hj
  have hjl : j < c.piv.length := by
   rcases Nat.lt_or_ge j c.piv.length with h'|h'
   ·exact h'
   rw [List.getElem?_eq_none h'] at hq;cases hq
  obtain⟨b1,b2,b3,b4,b5⟩:=hzo.pv q (List.mem_of_getElem? hq)
  have b6:=(hb q (List.mem_of_getElem? hq)).2.2
  have b7:=(I.hi j q hjl hq).2
  refine⟨b1,b2,by dsimp only;split<;>omega,by dsimp only;rw [hle];split<;>omega,fun i z hzz=>?_⟩
  dsimp only
  have hi : i < c.vals.length - 1 := by
   rcases Nat.lt_or_ge i (c.vals.length - 1) with h'|h'
   ·exact h'
   rw [List.getElem?_eq_none (by omega)] at hzz;cases hzz
  rw [List.getElem?_take,if_pos hi] at hzz
  rcases mvZ_at (by omega) hzz (by omega) with ⟨g1,g2⟩|⟨g1,g2⟩
  ·rw [I.sd i z g1 g2 j q hq]
   by_cases hv:v<q.1
   ·rw [if_pos ⟨hjl,hv⟩,if_pos hv]
   rw [if_neg (fun h=>hv h.2),if_neg hv]
  subst g1
  rw [I.sd (c.vals.length - 1) z (by omega) g2 j q hq]
  by_cases hv:v<q.1
  ·have := b7 hv
   rw [if_pos ⟨hjl,hv⟩,if_pos hv];omega
  rw [if_neg (fun h=>hv h.2),if_neg hv];omega
 intro i j p q hij hp hq
 obtain⟨p',hp',rfl⟩:=hat hp
 obtain⟨q',hq',rfl⟩:=hat hq
 have:=hc.so i j p' q' hij hp' hq'
 have b1:=(hb p' (List.mem_of_getElem? hp')).2.2
 have b2:=(hb q' (List.mem_of_getElem? hq')).2.2
 dsimp only
 refine⟨this.1,?_⟩
 split<;>split<;>omega
theorem rowIx_mem {l : List Int} {x : Int} (h : x ∈ l) : ∃ k : Nat, rowIx l x = k ∧ l[k]? = some x := by
 have hany:l.any (fun y=>decide (x=y))=true:=List.any_eq_true.2 ⟨x,h,by simp⟩
 refine⟨l.findIdx fun y=>decide (x=y),by rw [rowIx,fIdx,if_pos hany],?_⟩
 have hl:l.findIdx (fun y=>decide (x=y))<l.length:=List.findIdx_lt_length_of_exists ⟨x,h,by simp⟩
 have:=List.findIdx_getElem (w:=hl)
 rw [List.getElem?_eq_getElem hl]
 have e:x=l[l.findIdx fun y=>decide (x=y)]:=by simpa using this
 rw [← e]
theorem rowIx_no {l : List Int} {x : Int} (h : x ∉ l) : rowIx l x = -1 := by
 rw [rowIx,fIdx,if_neg]
 intro hany
 obtain⟨y,hy,e⟩:=List.any_eq_true.1 hany
 have:x=y:=by simpa using e
 subst this;exact h hy
theorem mem_zip_row {c : Crk} (hl : c.rows.length = c.vals.length) {z : Int × Int} (h : z ∈ zpC c) : z.2 ∈ c.rows := by
 have e:(zpC c).map (·.2)=c.rows:=List.map_snd_zip (l₁:=c.vals) (l₂:=c.rows) (by omega)
 rw [← e];exact List.mem_map_of_mem h
theorem row_mem_zip {c : Crk} (hl : c.rows.length = c.vals.length) {w : Int} (h : w ∈ c.rows) : ∃ z ∈ zpC c, z.2 = w := by
 have e:(zpC c).map (·.2)=c.rows:=List.map_snd_zip (l₁:=c.vals) (l₂:=c.rows) (by omega)
 rw [← e] at h
 exact List.mem_map.1 h
/-- The value of a row. -/
def valAt (c:Crk) (w:Int):Int:=c.vals.getD (rowIx c.rows w).toNat 0
theorem zip_nd {c : Crk} (hc : CrkOk c) {y z : Int × Int} (hy : y ∈ zpC c) (hz : z ∈ zpC c) (h : y.2 = z.2) : y = z := by
 have nd:=hc.z.nd
 obtain⟨i,hi⟩:=List.getElem?_of_mem hy
 obtain⟨j,hj⟩:=List.getElem?_of_mem hz
 have hi' : i < (zpC c).length := by
  rcases Nat.lt_or_ge i (zpC c).length with h'|h'
  ·exact h'
  rw [List.getElem?_eq_none h'] at hi;cases hi
 have hj' : j < (zpC c).length := by
  rcases Nat.lt_or_ge j (zpC c).length with h'|h'
  ·exact h'
  rw [List.getElem?_eq_none h'] at hj;cases hj
 have ei:(zpC c)[i]=y:=by rw [List.getElem?_eq_getElem hi'] at hi;exact Option.some.inj hi
 have ej:(zpC c)[j]=z:=by rw [List.getElem?_eq_getElem hj'] at hj;exact Option.some.inj hj
 rcases Nat.lt_trichotomy i j with e|e|e
 ·have := List.pairwise_iff_getElem.1 nd i j (by simpa using hi') (by simpa using hj') e
  simp [ei,ej,h] at this
 ·subst e;rw [← ei,ej]
 have := List.pairwise_iff_getElem.1 nd j i (by simpa using hj') (by simpa using hi') e
 simp [ei,ej,h] at this
theorem row_place {c : Crk} (hl : c.rows.length = c.vals.length) {w : Int} (h : w ∈ c.rows) : ∃ k : Nat, rowIx c.rows w = k ∧ k < c.vals.length ∧ c.rows[k]? = some w ∧ c.vals[k]? = some (valAt c w) ∧ (zpC c)[k]? = some (valAt c w, w) := by
 obtain⟨k,h1,h2⟩:=rowIx_mem h
 have hk : k < c.rows.length := by
  rcases Nat.lt_or_ge k c.rows.length with h'|h'
  ·exact h'
  rw [List.getElem?_eq_none h'] at h2;cases h2
 have hv : c.vals[k]? = some (valAt c w) := by
  rw [valAt,h1,Int.toNat_natCast,List.getD_eq_getElem?_getD,List.getElem?_eq_getElem (by omega)];rfl
 refine⟨k,h1,by omega,h2,hv,?_⟩
 rw [zpC,List.getElem?_zip_eq_some]
 exact⟨hv,h2⟩
def dRow (c:Crk) (w:Int):Crk:=ripD c (rowIx c.rows w).toNat
def dRowN (c:Crk) (w:Int):Int:=ripDn c (rowIx c.rows w).toNat
theorem insZ_bd (x : Int) : ∀ (k : Nat) (Z P : List (Int × Int)) (h : Nat) (m : Int), m ≤ (insZ x k Z P h m).2.2.2 ∧ (insZ x k Z P h m).2.2.2 ≤ m + k
 | 0,Z,P,h,m=>⟨Int.le_refl _,by simp [insZ]⟩
 | k + 1, Z, P, h, m => by
  rw [insZ]
  split
  ·have := insZ_bd x k (mvZ Z h (P.getD k (0, 0)).2.toNat) (P.set k ((P.getD k (0, 0)).1, (P.getD k (0, 0)).2 + 1)) (P.getD k (0, 0)).2.toNat (m + if h = (P.getD k (0, 0)).2.toNat then 0 else 1)
   have h01:0≤(if h=(P.getD k (0,0)).2.toNat then (0:Int) else 1)∧(if h=(P.getD k (0,0)).2.toNat then (0:Int) else 1)≤1:=by split<;>omega
   generalize (if h=(P.getD k (0,0)).2.toNat then (0:Int) else 1)=u at *
   omega
  dsimp only;omega
theorem delZ_bd (v : Int) : ∀ (f k : Nat) (Z P : List (Int × Int)) (h : Nat) (m : Int), m ≤ (delZ v f k Z P h m).2.2.2 ∧ (delZ v f k Z P h m).2.2.2 ≤ m + f
 | 0,k,Z,P,h,m=>⟨Int.le_refl _,by simp [delZ]⟩
 | f + 1, k, Z, P, h, m => by
  rw [delZ]
  split
  ·have := delZ_bd v f (k + 1) Z P h m
   omega
  have := delZ_bd v f (k + 1) (mvZ Z h ((P.getD k (0, 0)).2 - 1).toNat) (P.set k ((P.getD k (0, 0)).1, (P.getD k (0, 0)).2 - 1)) ((P.getD k (0, 0)).2 - 1).toNat (m + if h = ((P.getD k (0, 0)).2 - 1).toNat then 0 else 1)
  have h01:0≤(if h=((P.getD k (0,0)).2 - 1).toNat then (0:Int) else 1)∧(if h=((P.getD k (0,0)).2 - 1).toNat then (0:Int) else 1)≤1:=by split<;>omega
  generalize (if h=((P.getD k (0,0)).2 - 1).toNat then (0:Int) else 1)=u at *
  omega
theorem insZ_pl (x : Int) : ∀ (k : Nat) (Z P : List (Int × Int)) (h : Nat) (m : Int), (insZ x k Z P h m).2.1.length = P.length
 | 0,Z,P,h,m=>rfl
 | k + 1, Z, P, h, m => by
  rw [insZ]
  split
  ·rw [insZ_pl x k];simp
  rfl
theorem delZ_pl (v : Int) : ∀ (f k : Nat) (Z P : List (Int × Int)) (h : Nat) (m : Int), (delZ v f k Z P h m).2.1.length = P.length
 | 0,k,Z,P,h,m=>rfl
 | f + 1, k, Z, P, h, m => by
  rw [delZ]
  split
  ·rw [delZ_pl v f]
  rw [delZ_pl v f];simp
structure PndOk (c : Crk) (p : Pnd) : Prop where
 crk:CrkOk c
 il:p.ins.length≤20
 dl:p.del.length≤20
 al:c.vals.length+p.ins.length≤64
 it:∀ x ∈ p.ins,-999≤x.1∧x.1≤999∧0≤x.2∧x.2≤999
 no:∀ x ∈ p.ins,x.2 ∉ c.rows
 ni:(p.ins.map (·.2)).Nodup
 dr:∀ w ∈ p.del,w ∈ c.rows
 nd:p.del.Nodup
theorem nodup_of_take {l : List Int} (h : ∀ k x, l[k]? = some x → x ∉ l.take k) : l.Nodup := by
 refine List.pairwise_iff_getElem.2 fun i j hi hj hij e=>?_
 refine h j l[j] (List.getElem?_eq_getElem hj) ?_
 rw [← e]
 exact List.mem_of_getElem? (i:=i) (by rw [List.getElem?_take,if_pos hij];exact List.getElem?_eq_getElem hi)
theorem lt_of_at {α : Type} {l : List α} {k : Nat} {x : α} (h : l[k]? = some x) : k < l.length := by
 rcases Nat.lt_or_ge k l.length with h'|h'
 ·exact h'
 rw [List.getElem?_eq_none h'] at h;cases h
theorem pnd_ok {c : Crk} {p : Pnd} (h : isPnd c p = true) : PndOk c p := by
 simp only [isPnd,pndN,Bool.and_eq_true,decide_eq_true_eq] at h
 obtain⟨⟨⟨h1,⟨h2,h3⟩,h4⟩,h5⟩,h6⟩:=h
 have hi : ∀ k x, p.ins[k]? = some x → (isItem x = true ∧ rowIx c.rows x.2 < 0) ∧ ¬ x.2 ∈ (p.ins.map (·.2)).take k := fun k x hx => by
  have:=allK_at h5 (lt_of_at hx)
  rw [insP_at hx] at this
  simpa using this
 have hd : ∀ k x, p.del[k]? = some x → rowIx c.rows x ≥ 0 ∧ ¬ x ∈ p.del.take k := fun k x hx => by
  have:=allK_at h6 (lt_of_at hx)
  rw [delP_at hx] at this
  simpa using this
 refine⟨(crk_iff c).1 h1,h2,h3,h4,fun x hx=>?_,fun x hx hm=>?_,nodup_of_take fun k y hy hm=>?_,fun w hw=>?_,nodup_of_take fun k x hx=>(hd k x hx).2⟩
 ·obtain ⟨k, hk⟩ := List.getElem?_of_mem hx
  have:=(hi k x hk).1.1
  simp only [isItem,isIn,Bool.and_eq_true,decide_eq_true_eq] at this
  omega
 ·obtain ⟨k, hk⟩ := List.getElem?_of_mem hx
  obtain⟨j,hj,_⟩:=rowIx_mem hm
  have:=(hi k x hk).1.2
  omega
 ·rw [List.getElem?_map] at hy
  cases hx:p.ins[k]? with
  | none=>rw [hx] at hy;cases hy
  | some x =>
   rw [hx] at hy
   have e:x.2=y:=by simpa using hy
   exact (hi k x hx).2 (e ▸ hm)
 obtain ⟨k, hk⟩ := List.getElem?_of_mem hw
 by_cases hm:w ∈ c.rows
 ·exact hm
 have := rowIx_no hm
 have:=(hd k w hk).1
 omega
/-- Behind k deletions. -/
def mD (c : Crk) (p : Pnd) (r : Int × Int) : Nat → Crk × List Int × Int
 | 0=>(c,[],0)
 | k+1=>if inR r (valAt c (p.del.getD k 0))=true then (dRow (mD c p r k).1 (p.del.getD k 0),(mD c p r k).2.1,(mD c p r k).2.2+dRowN (mD c p r k).1 (p.del.getD k 0)) else ((mD c p r k).1,(mD c p r k).2.1++[p.del.getD k 0],(mD c p r k).2.2)
/-- And behind k insertions. -/
def mI (c : Crk) (p : Pnd) (r : Int × Int) : Nat → Crk × List (Int × Int) × Int
 | 0=>((mD c p r p.del.length).1,[],(mD c p r p.del.length).2.2)
 | k+1=>if inR r (p.ins.getD k (0,0)).1=true then (ripI (mI c p r k).1 (p.ins.getD k (0,0)),(mI c p r k).2.1,(mI c p r k).2.2+ripIn (mI c p r k).1 (p.ins.getD k (0,0))) else ((mI c p r k).1,(mI c p r k).2.1++[p.ins.getD k (0,0)],(mI c p r k).2.2)
structure MDI (c : Crk) (p : Pnd) (r : Int × Int) (k : Nat) (s : Crk × List Int × Int) : Prop where
 ok:CrkOk s.1
 mem:∀ z,z ∈ zpC s.1↔z ∈ zpC c ∧ ¬ (z.2 ∈ p.del.take k∧inR r z.1=true)
 vl:s.1.vals.length≤c.vals.length
 pl:s.1.piv.length=c.piv.length
 ll:s.2.1.length≤k
 nn:0≤s.2.2∧s.2.2≤(c.piv.length+1)*k
theorem mem_take_succ {α : Type} {l : List α} {k : Nat} {w y : α} (hw : l[k]? = some w) : y ∈ l.take (k + 1) ↔ y ∈ l.take k ∨ y = w := by
 rw [List.take_add_one,hw];simp
theorem nd_take {α : Type} {l : List α} (h : l.Nodup) {k : Nat} {w : α} (hw : l[k]? = some w) : w ∉ l.take k := by
 intro hm
 obtain⟨j,hj,e⟩:=List.mem_iff_getElem.1 hm
 rw [List.length_take] at hj
 have hk : k < l.length := by
  rcases Nat.lt_or_ge k l.length with h'|h'
  ·exact h'
  rw [List.getElem?_eq_none h'] at hw;cases hw
 rw [List.getElem_take] at e
 rw [List.getElem?_eq_getElem hk] at hw
 exact List.pairwise_iff_getElem.1 h j k (by omega) hk (by omega) (e.trans (Option.some.inj hw).symm)
theorem mDI_row {c : Crk} {p : Pnd} {r : Int × Int} (hp : PndOk c p) {k : Nat} {s : Crk × List Int × Int} (I : MDI c p r k s) {w : Int} (hw : p.del[k]? = some w) : w ∈ s.1.rows ∧ valAt s.1 w = valAt c w := by
 have hwm:=List.mem_of_getElem? hw
 obtain⟨z,hz,e⟩:=row_mem_zip hp.crk.rl (hp.dr w hwm)
 have hz2:z ∈ zpC s.1:=(I.mem z).2 ⟨hz,fun h=>nd_take hp.nd hw (e ▸ h.1)⟩
 have hr:w ∈ s.1.rows:=e ▸ mem_zip_row I.ok.rl hz2
 refine⟨hr,?_⟩
 obtain⟨a,_,_,_,_,ha⟩:=row_place I.ok.rl hr
 obtain⟨b,_,_,_,_,hb⟩:=row_place hp.crk.rl (hp.dr w hwm)
 have h1:(valAt s.1 w,w) ∈ zpC c:=((I.mem _).1 (List.mem_of_getElem? ha)).1
 have:=zip_nd hp.crk h1 (List.mem_of_getElem? hb) rfl
 exact congrArg Prod.fst this
theorem mD_ok {c : Crk} {p : Pnd} (hp : PndOk c p) (r : Int × Int) : ∀ k, k ≤ p.del.length → MDI c p r k (mD c p r k)
 | 0,_=>⟨hp.crk,fun z=>by simp [mD],Nat.le_refl _,rfl,Nat.le_refl _,by simp [mD]⟩
 | k + 1, hk => by
  have I:=mD_ok hp r k (by omega)
  obtain⟨w,hw⟩:∃ w,p.del[k]? = some w:=⟨_,List.getElem?_eq_getElem (by omega)⟩
  have e:p.del.getD k 0=w:=getD_of hw
  obtain⟨hr,hv⟩:=mDI_row hp I hw
  obtain⟨i,hi,hil,hri,hvi,hzi⟩:=row_place I.ok.rl hr
  have hval : ∀ z ∈ zpC c, z.2 = w → z.1 = valAt c w := fun z hz hzw => by
   obtain⟨b,_,_,_,_,hb⟩:=row_place hp.crk.rl (hp.dr w (List.mem_of_getElem? hw))
   exact congrArg Prod.fst (zip_nd hp.crk hz (List.mem_of_getElem? hb) hzw)
  rw [mD,e]
  split
  ·rename_i hin
   have hd:=ripD_ok I.ok hil
   have hb:=delZ_bd ((mD c p r k).1.vals.getD i 0) (mD c p r k).1.piv.length 0 (zpC (mD c p r k).1) (mD c p r k).1.piv i 0
   have hpl:=delZ_pl ((mD c p r k).1.vals.getD i 0) (mD c p r k).1.piv.length 0 (zpC (mD c p r k).1) (mD c p r k).1.piv i 0
   have hmul:((c.piv.length:Int)+1)*((k+1:Nat):Int)=((c.piv.length:Int)+1)*(k:Int)+(c.piv.length+1):=by rw [Int.natCast_add,Int.mul_add];simp
   have hbn:=I.nn
   have hbp:=I.pl
   refine⟨?_,fun z=>?_,?_,?_,by have:=I.ll;dsimp only;omega,?_⟩
   ·show CrkOk (dRow _ w)
    rw [dRow,hi,Int.toNat_natCast];exact hd.1
   ·show z ∈ zpC (dRow _ w) ↔ _
    rw [dRow,hi,Int.toNat_natCast,hd.2.mem_iff,mem_take_succ hw]
    have hnd:(zpC (mD c p r k).1).Perm ((valAt (mD c p r k).1 w,w)::(zpC (mD c p r k).1).eraseIdx i):=perm_at hzi
    constructor
    ·intro hz
     have hz1:=(I.mem z).1 (List.mem_of_mem_eraseIdx hz)
     refine⟨hz1.1,fun hh=>?_⟩
     rcases hh.1 with h1|h1
     ·exact hz1.2 ⟨h1,hh.2⟩
     have hnd2 := (hnd.map (·.2)).nodup_iff.1 I.ok.z.nd
     rw [List.map_cons,List.nodup_cons] at hnd2
     exact hnd2.1 (List.mem_map.2 ⟨z,hz,h1⟩)
    rintro ⟨h1, h2⟩
    have h3:z ∈ zpC (mD c p r k).1:=(I.mem z).2 ⟨h1,fun hh=>h2 ⟨.inl hh.1,hh.2⟩⟩
    rcases List.mem_cons.1 (hnd.mem_iff.1 h3) with h4|h4
    ·exfalso
     have e2:z.2=w:=by rw [h4]
     refine h2 ⟨.inr e2,?_⟩
     rw [hval z h1 e2];exact hin
    exact h4
   ·show (dRow _ w).vals.length ≤ _
    rw [dRow,hi,Int.toNat_natCast]
    have h1:=hd.2.length_eq
    have h2:(zpC (ripD (mD c p r k).1 i)).length=(ripD (mD c p r k).1 i).vals.length:=by simp [zpC,hd.1.rl]
    have h3:(zpC (mD c p r k).1).length=(mD c p r k).1.vals.length:=by simp [zpC,I.ok.rl]
    have h4:=List.length_eraseIdx_le (zpC (mD c p r k).1) i
    have:=I.vl
    omega
   ·show (dRow _ w).piv.length = _
    rw [dRow,hi,Int.toNat_natCast]
    exact hpl.trans hbp
   show 0 ≤ (mD c p r k).2.2 + dRowN _ w ∧ (mD c p r k).2.2 + dRowN _ w ≤ _
   rw [dRowN,hi,Int.toNat_natCast,ripDn,delRz,hmul]
   rw [hbp] at hb
   rw [hbp]
   split<;>omega
  rename_i hin
  refine⟨I.ok,fun z=>?_,I.vl,I.pl,by have:=I.ll;simp;omega,?_⟩
  ·rw [I.mem z, mem_take_succ hw]
   constructor
   ·rintro ⟨h1, h2⟩
    refine⟨h1,fun hh=>?_⟩
    rcases hh.1 with h3|h3
    ·exact h2 ⟨h3,hh.2⟩
    exact hin (hval z h1 h3 ▸ hh.2)
   rintro ⟨h1, h2⟩
   exact⟨h1,fun hh=>h2 ⟨.inl hh.1,hh.2⟩⟩
  have hmul : ((c.piv.length : Int) + 1) * ((k + 1 : Nat) : Int) = ((c.piv.length : Int) + 1) * (k : Int) + (c.piv.length + 1) := by rw [Int.natCast_add, Int.mul_add]; simp
  have:=I.nn
  rw [hmul]
  dsimp only
  omega
structure MII (c : Crk) (p : Pnd) (r : Int × Int) (k : Nat) (s : Crk × List (Int × Int) × Int) : Prop where
 ok:CrkOk s.1
 mem:∀ z,z ∈ zpC s.1↔(z ∈ zpC c ∧ ¬ (z.2 ∈ p.del∧inR r z.1=true))∨(z ∈ p.ins.take k∧inR r z.1=true)
 vl:s.1.vals.length≤c.vals.length+k
 pl:s.1.piv.length=c.piv.length
 ll:s.2.1.length≤k
 nn:0≤s.2.2∧s.2.2≤(c.piv.length+1)*(p.del.length+k)
theorem mII_row {c : Crk} {p : Pnd} {r : Int × Int} (hp : PndOk c p) {k : Nat} {s : Crk × List (Int × Int) × Int} (I : MII c p r k s) {x : Int × Int} (hx : p.ins[k]? = some x) : x.2 ∉ s.1.rows ∧ s.1.vals.length < 64 := by
 have hk : k < p.ins.length := by
  rcases Nat.lt_or_ge k p.ins.length with h'|h'
  ·exact h'
  rw [List.getElem?_eq_none h'] at hx;cases hx
 refine⟨fun hm=>?_,by have:=I.vl;have:=hp.al;omega⟩
 obtain⟨z,hz,e⟩:=row_mem_zip I.ok.rl hm
 rcases (I.mem z).1 hz with ⟨h1,_⟩|⟨h1,_⟩
 ·exact hp.no x (List.mem_of_getElem? hx) (e ▸ mem_zip_row hp.crk.rl h1)
 have h2 : (p.ins.map (·.2))[k]? = some x.2 := by simp [hx]
 exact nd_take hp.ni h2 (by rw [← List.map_take,← e];exact List.mem_map_of_mem h1)
theorem mI_ok {c : Crk} {p : Pnd} (hp : PndOk c p) (r : Int × Int) : ∀ k, k ≤ p.ins.length → MII c p r k (mI c p r k)
 | 0, _ => by
  have I:=mD_ok hp r p.del.length (Nat.le_refl _)
  refine⟨I.ok,fun z=>?_,I.vl,I.pl,Nat.le_refl _,I.nn⟩
  have:=I.mem z
  rw [List.take_length] at this
  simpa [mI] using this
 | k + 1, hk => by
  have I:=mI_ok hp r k (by omega)
  obtain⟨x,hx⟩:∃ x,p.ins[k]? = some x:=⟨_,List.getElem?_eq_getElem (by omega)⟩
  have e:p.ins.getD k (0,0)=x:=getD_of hx
  have hmul : ((c.piv.length : Int) + 1) * ((p.del.length : Int) + ((k + 1 : Nat) : Int)) = ((c.piv.length : Int) + 1) * ((p.del.length : Int) + (k : Int)) + (c.piv.length + 1) := by
   rw [Int.natCast_add,← Int.add_assoc,Int.mul_add _ _ ((1:Nat):Int)];simp
  rw [mI,e]
  split
  ·rename_i hin
   obtain⟨h1,h2⟩:=mII_row hp I hx
   obtain⟨k1,k2⟩:=ripI_ok I.ok (hp.it x (List.mem_of_getElem? hx)) h1 h2
   have hb:=insZ_bd x.1 (mI c p r k).1.piv.length (zpC (mI c p r k).1++[x]) (mI c p r k).1.piv (mI c p r k).1.vals.length 0
   have hpl:=insZ_pl x.1 (mI c p r k).1.piv.length (zpC (mI c p r k).1++[x]) (mI c p r k).1.piv (mI c p r k).1.vals.length 0
   have hbn:=I.nn
   have hbp:=I.pl
   refine⟨k1,fun z=>?_,?_,hpl.trans hbp,by have:=I.ll;dsimp only;omega,?_⟩
   ·show z ∈ zpC (ripI _ x) ↔ _
    rw [k2.mem_iff,List.mem_cons,I.mem z,mem_take_succ hx]
    constructor
    ·rintro (h | h | h)
     ·subst h;exact .inr ⟨.inr rfl,hin⟩
     ·exact .inl h
     exact .inr ⟨.inl h.1,h.2⟩
    rintro (h | ⟨h | h, h'⟩)
    ·exact .inr (.inl h)
    ·exact .inr (.inr ⟨h,h'⟩)
    exact .inl h
   ·show (ripI _ x).vals.length ≤ _
    have h3:=k2.length_eq
    have h4:(zpC (ripI (mI c p r k).1 x)).length=(ripI (mI c p r k).1 x).vals.length:=by simp [zpC,k1.rl]
    have h5:(zpC (mI c p r k).1).length=(mI c p r k).1.vals.length:=by simp [zpC,I.ok.rl]
    rw [List.length_cons] at h3
    have:=I.vl
    omega
   show 0 ≤ (mI c p r k).2.2 + ripIn _ x ∧ (mI c p r k).2.2 + ripIn _ x ≤ _
   rw [ripIn,insR,hmul]
   omega
  rename_i hin
  refine⟨I.ok,fun z=>?_,by have:=I.vl;dsimp only;omega,I.pl,by have:=I.ll;simp;omega,?_⟩
  ·rw [I.mem z, mem_take_succ hx]
   constructor
   ·rintro (h | h)
    ·exact .inl h
    exact .inr ⟨.inl h.1,h.2⟩
   rintro (h | ⟨h | h, h'⟩)
   ·exact .inl h
   ·exact .inr ⟨h,h'⟩
   subst h;exact absurd h' hin
  have := I.nn
  rw [hmul]
  dsimp only
  omega

end Go.Proofs.YtlodlnbhjghjoaaGreat.E
