/- Walks through functions, by program out of the session's annotations. -/
import Derived.Test.YtcepgfcolmdnoaaA52
import Derived.Test.YtcepgfcolmdnoaaA47
namespace Go.Proofs.Ytcepgfcolmdnoaa.E
open Go Go.RowKit Go.Proofs
set_option linter.unusedVariables false
set_option linter.unusedSimpArgs false

def aE (k a e:Int):Int:=if e≤k then max a e else a
def bE (k b e:Int):Int:=if e≤k then b else min b e
theorem aE_ge (k : Int) : ∀ (l : List Int) (a : Int), a ≤ l.foldl (aE k) a ∧ ∀ e ∈ l, e ≤ k → e ≤ l.foldl (aE k) a
 | [],a=>⟨Int.le_refl _,by simp⟩
 | x :: l, a => by
  obtain⟨h1,h2⟩:=aE_ge k l (aE k a x)
  have h3:a≤aE k a x∧(x≤k→x≤aE k a x):=by unfold aE;split<;>omega
  rw [List.foldl_cons]
  refine⟨by omega,fun e he hk=>?_⟩
  rcases List.mem_cons.1 he with rfl|he
  ·have:=h3.2 hk;omega
  exact h2 e he hk
theorem aE_le (k : Int) {u : Int} : ∀ (l : List Int) (a : Int), a ≤ u → (∀ e ∈ l, e ≤ k → e ≤ u) → l.foldl (aE k) a ≤ u
 | [],a,h,_=>h
 | x :: l, a, h, hl => by
  rw [List.foldl_cons]
  refine aE_le k l _ ?_ fun e he=>hl e (List.mem_cons_of_mem _ he)
  have:=hl x (List.mem_cons_self ..)
  unfold aE;split<;>omega
theorem bE_le (k : Int) : ∀ (l : List Int) (b : Int), l.foldl (bE k) b ≤ b ∧ ∀ e ∈ l, k < e → l.foldl (bE k) b ≤ e
 | [],b=>⟨Int.le_refl _,by simp⟩
 | x :: l, b => by
  obtain⟨h1,h2⟩:=bE_le k l (bE k b x)
  have h3:bE k b x≤b∧(k<x→bE k b x≤x):=by unfold bE;split<;>omega
  rw [List.foldl_cons]
  refine⟨by omega,fun e he hk=>?_⟩
  rcases List.mem_cons.1 he with rfl|he
  ·have:=h3.2 hk;omega
  exact h2 e he hk
theorem bE_gt (k : Int) : ∀ (l : List Int) (b : Int), k < b → k < l.foldl (bE k) b
 | [],b,h=>h
 | x :: l, b, h => by
  rw [List.foldl_cons]
  refine bE_gt k l _ ?_
  unfold bE;split<;>omega
def atsL (c:Crk):List Int:=c.piv.map (·.2)
def posA (c:Crk) (k:Int):Int:=(atsL c).foldl (aE k) (if k=c.vals.length then k else 0)
def posB (c:Crk) (k:Int):Int:=(atsL c).foldl (bE k) c.vals.length
theorem ats_in {c : Crk} (hc : isCrk c = true) : ∀ e ∈ atsL c, 0 ≤ e ∧ e ≤ c.vals.length := by
 intro e he
 obtain⟨p,hp,rfl⟩:=List.mem_map.1 he
 have:=((crk_iff c).1 hc).pv p hp
 exact⟨this.2.2.1,this.2.2.2.1⟩
theorem ends_ats (c:Crk):endsL c=atsL c++[(c.vals.length:Int)]:=by rw [endsL,endsN,List.take_length];rfl
theorem posA_ends {c : Crk} {k : Int} (hc : isCrk c = true) (hk : 0 ≤ k ∧ k ≤ c.vals.length) : (endsL c).foldl (aE k) 0 = posA c k := by
 have hi:=ats_in hc
 rw [ends_ats,List.foldl_append,posA]
 show aE k ((atsL c).foldl (aE k) 0) c.vals.length=_
 by_cases h:k=c.vals.length
 ·have h1 := aE_le k (u := c.vals.length) (atsL c) 0 (by omega) fun e he _ => (hi e he).2
  have h2:=aE_le k (u:=c.vals.length) (atsL c) k (by omega) fun e he _=>(hi e he).2
  have h3:=(aE_ge k (atsL c) k).1
  rw [if_pos h,aE,if_pos (by omega)]
  omega
 rw [if_neg h,aE,if_neg (by omega)]
theorem posB_ends {c : Crk} {k : Int} : (endsL c).foldl (bE k) c.vals.length = posB c k := by
 rw [ends_ats,List.foldl_append,posB]
 show bE k ((atsL c).foldl (bE k) c.vals.length) c.vals.length=_
 have h1:=(bE_le k (atsL c) c.vals.length).1
 rw [bE]
 split
 ·rfl
 omega
/-- Where the piece of a position lies. -/
theorem pos_in {c : Crk} {k : Int} (hc : isCrk c = true) (hk : 0 ≤ k ∧ k ≤ c.vals.length) :
  0≤posA c k∧posA c k≤k∧posB c k≤c.vals.length∧(posA c k ≠ k→k<posB c k)∧(∀ p ∈ c.piv,p.2≤k→p.2≤posA c k) ∧ ∀ p ∈ c.piv,k<p.2→posB c k≤p.2:=by
 have h0:(0:Int)≤(if k=c.vals.length then k else 0)∧(if k=(c.vals.length:Int) then k else 0)≤k∧(k=c.vals.length→(if k=(c.vals.length:Int) then k else 0)=k):=by split<;>omega
 obtain⟨a1,a2⟩:=aE_ge k (atsL c) (if k=c.vals.length then k else 0)
 have a3:=aE_le k (u:=k) (atsL c) (if k=c.vals.length then k else 0) h0.2.1 fun e _ he=>he
 obtain⟨b1,b2⟩:=bE_le k (atsL c) c.vals.length
 have b3:=bE_gt k (atsL c) c.vals.length
 refine⟨by unfold posA;omega,a3,b1,fun h=>?_,fun p hp hk'=>a2 _ (List.mem_map.2 ⟨p,hp,rfl⟩) hk',fun p hp hk'=>b2 _ (List.mem_map.2 ⟨p,hp,rfl⟩) hk'⟩
 by_cases hn:k=c.vals.length
 ·exfalso
  have:=h0.2.2 hn
  unfold posA at h
  omega
 exact b3 (by omega)
def medI (l:List Int):Int:=(sortI l).getD ((l.length - 1) / 2) 0
theorem medI_mem {l : List Int} (h : 0 < l.length) : medI l ∈ l := by
 have hl:=sortI_len l
 unfold medI
 rw [getD_at (by omega)]
 exact (sortI_perm l).mem_iff.1 (List.getElem_mem _)
def allSame (l:List Int):Bool:=l.all fun y=>decide (y=l.getD 0 0)
def posL (c:Crk) (k:Int):List Int:=cutV c.vals (posA c k) (posB c k)
def stopP (c:Crk) (k:Int):Bool:=decide (posA c k=k) || allSame (posL c k)
def stepP (c:Crk) (k:Int):Crk:=(crackC (crackC c (medI (posL c k))).1 (medI (posL c k)+1)).1
/-- Cracked at medians till the position stands alone: column and rounds. -/
def goP (k : Int) : Nat → Crk → Int → Crk × Int
 | 0,c,r=>(c,r)
 | f+1,c,r=>if stopP c k=true then (c,r) else goP k f (stepP c k) (r+1)
theorem cutV_get {xs : List Int} {a b : Int} {j : Nat} (ha : 0 ≤ a) (hb : b ≤ xs.length) (hj : j < (cutV xs a b).length) : a.toNat + j < xs.length ∧ a + j < b ∧ (cutV xs a b)[j] = xs.getD (a.toNat + j) 0 := by
 have hl:(cutV xs a b).length=min (b.toNat - a.toNat) (xs.length - a.toNat):=by rw [cutV,List.length_take,List.length_drop]
 have h1:a.toNat+j<xs.length:=by omega
 refine⟨h1,by omega,?_⟩
 rw [getD_at h1]
 simp [cutV]
theorem cutV_len {xs : List Int} {a b : Int} (ha : 0 ≤ a) (h : a ≤ b) (hb : b ≤ xs.length) : ((cutV xs a b).length : Int) = b - a := by
 rw [cutV,List.length_take,List.length_drop];omega
theorem step_ok {c : Crk} {k : Int} (hc : isCrk c = true) (hk : 0 ≤ k ∧ k ≤ c.vals.length) (hs : stopP c k = false) :
  bnd (medI (posL c k))=true∧bnd (medI (posL c k)+1)=true∧isCrk (crackC c (medI (posL c k))).1=true∧isCrk (stepP c k)=true∧(stepP c k).vals.length=c.vals.length∧c.piv.length<(stepP c k).piv.length:=by
 have ho:=(crk_iff c).1 hc
 obtain⟨q1,q2,q3,q4,q5,q6⟩:=pos_in hc hk
 simp only [stopP,Bool.or_eq_false_iff,decide_eq_false_iff_not] at hs
 obtain⟨s1,s2⟩:=hs
 have hb:=q4 s1
 have hlen:((posL c k).length:Int)=posB c k - posA c k:=cutV_len q1 (by omega) q3
 have hm:=medI_mem (l:=posL c k) (by omega)
 generalize hmd:medI (posL c k)=m at *
 obtain⟨i,hi,e⟩:=List.mem_iff_getElem.1 hm
 obtain⟨i1,i2,i3⟩:=cutV_get (xs:=c.vals) q1 q3 hi
 have e':c.vals.getD ((posA c k).toNat+i) 0=m:=i3.symm.trans e
 have hr:=ho.vr _ i1
 rw [e'] at hr
 have b1:bnd m=true:=by simp [bnd,isIn];omega
 have b2:bnd (m+1)=true:=by simp [bnd,isIn];omega
 have k1:=(crackC_ok hc b1).1
 have k2:=(crackC_ok k1 b2).1
 have hst:stepP c k=(crackC (crackC c m).1 (m+1)).1:=by rw [stepP,hmd]
 rw [hst]
 refine⟨b1,b2,k1,k2,by rw [crackC_vals,crackC_vals],?_⟩
 have p1:=crackC_piv (c:=c) (v:=m)
 have p2:=crackC_piv (c:=(crackC c m).1) (v:=m+1)
 cases g1:isPv c.piv m
 ·rw [g1] at p1
  simp only [Bool.false_eq_true,if_false] at p1
  split at p2<;>omega
 have ec : (crackC c m).1 = c := by rw [crackC, if_pos g1]
 rw [ec] at p2 ⊢
 cases g2:isPv c.piv (m+1)
 ·rw [g2] at p2
  simp only [Bool.false_eq_true,if_false] at p2
  omega
 exfalso
 obtain⟨p,hp,ep⟩:=isPv_iff.1 g1
 obtain⟨q,hq,eq⟩:=isPv_iff.1 g2
 obtain⟨_,_,_,_,hp5⟩:=ho.pv p hp
 obtain⟨_,_,_,_,hq5⟩:=ho.pv q hq
 have x1:=hp5 _ i1
 have x2:=hq5 _ i1
 rw [e',ep] at x1
 rw [e',eq] at x2
 have y1 : p.2 ≤ k := by
  rcases Int.lt_or_le k p.2 with h|h
  ·have:=q6 p hp h;omega
  exact h
 have y2 : k < q.2 := by
  rcases Int.lt_or_le k q.2 with h|h
  ·exact h
  have:=q5 q hq h;omega
 have z1:=q5 p hp y1
 have z2:=q6 q hq y2
 have hall : ∀ j (hj : j < (posL c k).length), (posL c k)[j] = m := fun j hj => by
  obtain⟨j1,j2,j3⟩:=cutV_get (xs:=c.vals) q1 q3 hj
  have w1:=hp5 _ j1
  have w2:=hq5 _ j1
  rw [ep] at w1
  rw [eq] at w2
  refine Eq.trans j3 ?_
  omega
 have : allSame (posL c k) = true := by
  simp only [allSame,List.all_eq_true,decide_eq_true_eq]
  intro y hy
  obtain⟨j,hj,rfl⟩:=List.mem_iff_getElem.1 hy
  rw [hall j hj,getD_at (by omega),hall 0 (by omega)]
 rw [this] at s2;cases s2
/-- What comes out is a column as it has to be. -/
theorem goP_ok (k : Int) : ∀ (f : Nat) (c : Crk) (r : Int), isCrk c = true → 0 ≤ k ∧ k ≤ c.vals.length → isCrk (goP k f c r).1 = true ∧ (goP k f c r).1.vals.length = c.vals.length
 | 0,c,r,hc,_=>⟨hc,rfl⟩
 | f + 1, c, r, hc, hk => by
  rw [goP]
  split
  ·exact⟨hc,rfl⟩
  rename_i h
  obtain⟨_,_,_,s4,s5,_⟩:=step_ok hc hk (by simpa using h)
  obtain⟨g1,g2⟩:=goP_ok k f (stepP c k) (r+1) s4 (by rw [s5];exact hk)
  exact⟨g1,by rw [g2,s5]⟩

end Go.Proofs.Ytcepgfcolmdnoaa.E
