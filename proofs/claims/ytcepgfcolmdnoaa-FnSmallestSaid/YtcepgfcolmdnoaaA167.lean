/- Walks through functions, by program out of the session's annotations. -/
import Derived.Test.YtcepgfcolmdnoaaA122
import Derived.Test.YtcepgfcolmdnoaaA68
import Derived.Test.YtcepgfcolmdnoaaA67
namespace Go.Proofs.Ytcepgfcolmdnoaa.E
open Go Go.RowKit Go.Proofs
set_option linter.unusedVariables false
set_option linter.unusedSimpArgs false

/-- Halvings. -/
def lev2 : Nat → Nat → Nat
 | 0,_=>0
 | f+1,n=>if n≤1 then 0 else lev2 f (n / 2)+1
theorem lev2_mono : ∀ (f g n m : Nat), n ≤ m → m ≤ g → n ≤ f → lev2 f n ≤ lev2 g m
 | 0,g,n,m,_,_,_=>by simp [lev2]
 | f + 1, 0, n, m, h, hm, _ => by
  obtain rfl:n=0:=by omega
  simp [lev2]
 | f + 1, g + 1, n, m, h, hm, hn => by
  rw [lev2,lev2]
  by_cases h1:n≤1
  ·rw [if_pos h1];omega
  rw [if_neg h1, if_neg (by omega)]
  have:=lev2_mono f g (n / 2) (m / 2) (by omega) (by omega) (by omega)
  omega
theorem lev2_half {f n : Nat} (h : 2 ≤ n) (hf : n ≤ f) : ∃ g, f = g + 1 ∧ lev2 f n = lev2 g (n / 2) + 1 := by
 cases f with
 | zero=>omega
 | succ g=>exact⟨g,rfl,by rw [lev2,if_neg (by omega)]⟩
/-- Of so many, those at places from i on are not wanted. -/
theorem cnt_le {α : Type} (p : α → Bool) {l : List α} {i : Nat} (h : ∀ j (hj : j < l.length), i ≤ j → p l[j] = false) : l.countP p ≤ i := by
 have e:=List.take_append_drop i l
 rw [← e,List.countP_append]
 have h1:(l.take i).countP p≤i:=Nat.le_trans List.countP_le_length (by rw [List.length_take];omega)
 have h2 : (l.drop i).countP p = 0 := by
  rw [List.countP_eq_zero]
  intro x hx
  obtain⟨j,hj,rfl⟩:=List.mem_iff_getElem.1 hx
  rw [List.getElem_drop,h _ _ (by omega)]
  simp
 omega
theorem cnt_all {α:Type} (p:α→Bool) {l:List α} (h:∀ x ∈ l,p x=true):l.countP p=l.length:=List.countP_eq_length.2 h
/-- A median's two sides. -/
theorem med_sides {l : List Int} (h : 0 < l.length) : l.countP (fun x => decide (x < medI l)) ≤ (l.length - 1) / 2 ∧ l.length - l.countP (fun x => decide (x < medI l + 1)) ≤ l.length - 1 - (l.length - 1) / 2 := by
 have hp:=sortI_perm l
 have hs:=sortI_pw l
 have hl:=sortI_len l
 have hi:(l.length - 1) / 2<(sortI l).length:=by omega
 have em:medI l=(sortI l)[(l.length - 1) / 2]:=by rw [medI,getD_at hi]
 have mono : ∀ (i j : Nat) (hi : i < (sortI l).length) (hj : j < (sortI l).length), i ≤ j → (sortI l)[i] ≤ (sortI l)[j] := by
  intro i j hi hj hij
  rcases Nat.eq_or_lt_of_le hij with e|e
  ·subst e;exact Int.le_refl _
  exact List.pairwise_iff_getElem.1 hs i j hi hj e
 constructor
 ·rw [← hp.countP_eq]
  refine cnt_le _ fun j hj hij=>?_
  have:=mono _ _ hi hj hij
  rw [em]
  exact decide_eq_false (by omega)
 have h1 : (sortI l).countP (fun x => decide (x < medI l + 1)) = l.countP (fun x => decide (x < medI l + 1)) := hp.countP_eq _
 rw [← h1]
 have e:=List.take_append_drop ((l.length - 1) / 2+1) (sortI l)
 have h2 : ((sortI l).take ((l.length - 1) / 2 + 1)).countP (fun x => decide (x < medI l + 1)) = (l.length - 1) / 2 + 1 := by
  rw [cnt_all,List.length_take]
  ·omega
  intro x hx
  obtain⟨j,hj,rfl⟩:=List.mem_iff_getElem.1 hx
  rw [List.length_take] at hj
  rw [List.getElem_take]
  have:=mono j _ (by omega) hi (by omega)
  rw [em]
  exact decide_eq_true (by omega)
 have h3:(sortI l).countP (fun x=>decide (x<medI l+1))=((sortI l).take ((l.length - 1) / 2+1)).countP (fun x=>decide (x<medI l+1))+((sortI l).drop ((l.length - 1) / 2+1)).countP (fun x=>decide (x<medI l+1)):=by rw [← List.countP_append,e]
 omega
/-- A pivot stands where so many are smaller. -/
theorem piv_cnt {c : Crk} (ho : CrkOk c) {p : Int × Int} (hp : p ∈ c.piv) : p.2 = (c.vals.countP (fun x => decide (x < p.1)) : Int) := by
 obtain⟨_,_,a1,a2,a3⟩:=ho.pv p hp
 have e:=List.take_append_drop p.2.toNat c.vals
 have h1 : (c.vals.take p.2.toNat).countP (fun x => decide (x < p.1)) = p.2.toNat := by
  rw [cnt_all,List.length_take]
  ·omega
  intro x hx
  obtain⟨j,hj,rfl⟩:=List.mem_iff_getElem.1 hx
  rw [List.length_take] at hj
  rw [List.getElem_take,← getD_at]
  exact decide_eq_true ((a3 j (by omega)).2 (by omega))
 have h2 : (c.vals.drop p.2.toNat).countP (fun x => decide (x < p.1)) = 0 := by
  rw [List.countP_eq_zero]
  intro x hx
  obtain⟨j,hj,rfl⟩:=List.mem_iff_getElem.1 hx
  rw [List.length_drop] at hj
  rw [List.getElem_drop,← getD_at]
  have:=a3 (p.2.toNat+j) (by omega)
  simp only [decide_eq_true_eq]
  omega
 have h3:c.vals.countP (fun x=>decide (x<p.1))=(c.vals.take p.2.toNat).countP (fun x=>decide (x<p.1))+(c.vals.drop p.2.toNat).countP (fun x=>decide (x<p.1)):=by rw [← List.countP_append,e]
 omega
theorem vals_perm {c d : Crk} (hc : CrkOk c) (hd : CrkOk d) (h : (zpC d).Perm (zpC c)) : d.vals.Perm c.vals := by
 have m2:(zpC d).map (·.1)=d.vals:=List.map_fst_zip (l₁:=d.vals) (l₂:=d.rows) (by have:=hd.rl;omega)
 have m3:(zpC c).map (·.1)=c.vals:=List.map_fst_zip (l₁:=c.vals) (l₂:=c.rows) (by have:=hc.rl;omega)
 have:=h.map (·.1)
 rwa [m2,m3] at this
theorem aE_mem (k : Int) : ∀ (l : List Int) (a : Int), l.foldl (aE k) a = a ∨ l.foldl (aE k) a ∈ l
 | [],a=>.inl rfl
 | x :: l, a => by
  rw [List.foldl_cons]
  rcases aE_mem k l (aE k a x) with h|h
  ·rw [h]
   have:aE k a x=a∨aE k a x=x:=by unfold aE;split<;>omega
   rcases this with e|e
   ·exact .inl e
   rw [e];exact .inr (List.mem_cons_self ..)
  exact .inr (List.mem_cons_of_mem _ h)
theorem bE_mem (k : Int) : ∀ (l : List Int) (a : Int), l.foldl (bE k) a = a ∨ l.foldl (bE k) a ∈ l
 | [],a=>.inl rfl
 | x :: l, a => by
  rw [List.foldl_cons]
  rcases bE_mem k l (bE k a x) with h|h
  ·rw [h]
   have:bE k a x=a∨bE k a x=x:=by unfold bE;split<;>omega
   rcases this with e|e
   ·exact .inl e
   rw [e];exact .inr (List.mem_cons_self ..)
  exact .inr (List.mem_cons_of_mem _ h)
/-- The ends of a position's piece are pivots' places or the column's ends. -/
theorem pos_ends {c : Crk} {k : Int} (hk : k ≠ c.vals.length) : (posA c k = 0 ∨ ∃ p ∈ c.piv, p.2 = posA c k) ∧ (posB c k = c.vals.length ∨ ∃ p ∈ c.piv, p.2 = posB c k) := by
 constructor
 ·rw [posA, if_neg hk]
  rcases aE_mem k (atsL c) 0 with h|h
  ·exact .inl h
  obtain ⟨p, hp, e⟩ := List.mem_map.1 h
  exact .inr ⟨p,hp,e⟩
 rw [posB]
 rcases bE_mem k (atsL c) c.vals.length with h|h
 ·exact .inl h
 obtain ⟨p, hp, e⟩ := List.mem_map.1 h
 exact .inr ⟨p,hp,e⟩
theorem crackC_sub {c : Crk} {v : Int} {p : Int × Int} (hp : p ∈ c.piv) : p ∈ (crackC c v).1.piv := by
 cases h:isPv c.piv v
 ·have e : (crackC c v).1.piv = insPv c.piv (v, (partC c v).2) := by rw [crackC, if_neg (by simp [h])]; rfl
  rw [e]
  exact insPv_in (.inr hp)
 rw [crackC,if_pos h];exact hp
theorem posA_ge {c:Crk} {k:Int} {p:Int × Int} (hp:p ∈ c.piv) (h:p.2≤k):p.2≤posA c k:=(aE_ge k (atsL c) _).2 _ (List.mem_map.2 ⟨p,hp,rfl⟩) h
theorem posB_le {c:Crk} {k:Int} {p:Int × Int} (hp:p ∈ c.piv) (h:k<p.2):posB c k≤p.2:=(bE_le k (atsL c) _).2 _ (List.mem_map.2 ⟨p,hp,rfl⟩) h
theorem posB_n {c:Crk} {k:Int}:posB c k≤c.vals.length:=(bE_le k (atsL c) _).1
/-- A round halves the position's piece, or it is the last. -/
theorem step_half {c : Crk} {k : Int} (hc : isCrk c = true) (hk : 0 ≤ k ∧ k ≤ c.vals.length) (hs : stopP c k = false) : stopP (stepP c k) k = true ∨ 2 * (posB (stepP c k) k - posA (stepP c k) k) ≤ posB c k - posA c k := by
 have ho:=(crk_iff c).1 hc
 obtain⟨b1,b2,k1,k2,k3,_⟩:=step_ok hc hk hs
 obtain⟨q1,q2,q3,q4,q5,q6⟩:=pos_in hc hk
 have hs2:=hs
 simp only [stopP,Bool.or_eq_false_iff,decide_eq_false_iff_not] at hs2
 have hkB:=q4 hs2.1
 have hkn:k ≠ c.vals.length:=by omega
 obtain⟨e1,e2⟩:=pos_ends hkn
 have hlen:((posL c k).length:Int)=posB c k - posA c k:=cutV_len q1 (by omega) q3
 obtain⟨m1,m2⟩:=med_sides (l:=posL c k) (by omega)
 have hm:=medI_mem (l:=posL c k) (by omega)
 have hst:stepP c k=(crackC (crackC c (medI (posL c k))).1 (medI (posL c k)+1)).1:=rfl
 rw [hst] at k2 k3 ⊢
 have hpm:(zpC (crackC (crackC c (medI (posL c k))).1 (medI (posL c k)+1)).1).Perm (zpC c):=(crack_perm k1 b2).trans (crack_perm hc b1)
 have hsub:∀ p ∈ c.piv,p ∈ (crackC (crackC c (medI (posL c k))).1 (medI (posL c k)+1)).1.piv:=fun p hp=>crackC_sub (crackC_sub hp)
 have p1:isPv (crackC (crackC c (medI (posL c k))).1 (medI (posL c k)+1)).1.piv (medI (posL c k))=true:=crackC_keep crackC_pv
 have p2:isPv (crackC (crackC c (medI (posL c k))).1 (medI (posL c k)+1)).1.piv (medI (posL c k)+1)=true:=crackC_pv
 generalize (crackC (crackC c (medI (posL c k))).1 (medI (posL c k)+1)).1=d at *
 have hd:=(crk_iff d).1 k2
 have hvp:=vals_perm ho hd hpm
 obtain⟨u,hu,eu⟩:=isPv_iff.1 p1
 obtain⟨w,hw,ew⟩:=isPv_iff.1 p2
 have cu:=piv_cnt hd hu
 have cw:=piv_cnt hd hw
 rw [hvp.countP_eq,eu] at cu
 rw [hvp.countP_eq,ew] at cw
 obtain⟨i,hi,ei⟩:=List.mem_iff_getElem.1 hm
 obtain⟨i1,i2,i3⟩:=cutV_get (xs:=c.vals) q1 q3 hi
 have evm:c.vals.getD ((posA c k).toNat+i) 0=medI (posL c k):=i3.symm.trans ei
 -- left of the piece all are smaller, right of it all are greater
 have hL : ∀ q : Nat, (q : Int) < posA c k → c.vals.getD q 0 < medI (posL c k) := by
  intro q hq
  rcases e1 with h|⟨p,hp,ep⟩
  ·omega
  obtain ⟨_, _, _, _, a3⟩ := ho.pv p hp
  have g1:=a3 q (by omega)
  have g2:=a3 _ i1
  omega
 have hR : ∀ q : Nat, posB c k ≤ q → q < c.vals.length → medI (posL c k) + 1 ≤ c.vals.getD q 0 := by
  intro q hq hqn
  rcases e2 with h|⟨p,hp,ep⟩
  ·omega
  obtain ⟨_, _, _, _, a3⟩ := ho.pv p hp
  have g1:=a3 q hqn
  have g2:=a3 _ i1
  omega
 have hcnt : ∀ v, medI (posL c k) ≤ v → v ≤ medI (posL c k) + 1 → (c.vals.countP (fun x => decide (x < v)) : Int) = posA c k + ((posL c k).countP (fun x => decide (x < v)) : Int) := by
  intro v hv1 hv2
  have s1:=List.take_append_drop (posA c k).toNat c.vals
  have s2:=List.take_append_drop (posB c k - posA c k).toNat (c.vals.drop (posA c k).toNat)
  have t1 : (c.vals.take (posA c k).toNat).countP (fun x => decide (x < v)) = (posA c k).toNat := by
   rw [cnt_all,List.length_take]
   ·omega
   intro x hx
   obtain⟨j,hj,rfl⟩:=List.mem_iff_getElem.1 hx
   rw [List.length_take] at hj
   rw [List.getElem_take,← getD_at]
   have:=hL j (by omega)
   exact decide_eq_true (by omega)
  have t2 : ((c.vals.drop (posA c k).toNat).drop (posB c k - posA c k).toNat).countP (fun x => decide (x < v)) = 0 := by
   rw [List.countP_eq_zero]
   intro x hx
   obtain⟨j,hj,rfl⟩:=List.mem_iff_getElem.1 hx
   rw [List.length_drop,List.length_drop] at hj
   rw [List.getElem_drop,List.getElem_drop,← getD_at]
   have:=hR ((posA c k).toNat+((posB c k - posA c k).toNat+j)) (by omega) (by omega)
   simp only [decide_eq_true_eq]
   omega
  have t3 : c.vals.countP (fun x => decide (x < v)) = (c.vals.take (posA c k).toNat).countP (fun x => decide (x < v)) + (((c.vals.drop (posA c k).toNat).take (posB c k - posA c k).toNat).countP (fun x => decide (x < v)) + ((c.vals.drop (posA c k).toNat).drop (posB c k - posA c k).toNat).countP (fun x => decide (x < v))) := by
   rw [← List.countP_append,s2,← List.countP_append,s1]
  have t4 : posL c k = (c.vals.drop (posA c k).toNat).take (posB c k - posA c k).toNat := by
   rw [posL,cutV,show (posB c k).toNat - (posA c k).toNat=(posB c k - posA c k).toNat by omega]
  rw [t4]
  omega
 rw [hcnt _ (by omega) (by omega)] at cu cw
 have hkd:0≤k∧k≤d.vals.length:=by omega
 obtain⟨d1,d2,d3,d4,_,_⟩:=pos_in k2 hkd
 have hge : posA c k ≤ posA d k := by
  rcases e1 with h|⟨p,hp,ep⟩
  ·omega
  have:=posA_ge (hsub p hp) (k:=k) (by omega);omega
 have hle : posB d k ≤ posB c k := by
  rcases e2 with h|⟨p,hp,ep⟩
  ·have:=posB_n (c:=d) (k:=k);omega
  have:=posB_le (hsub p hp) (k:=k) (by omega);omega
 rcases Int.lt_or_le k u.2 with h|h
 ·right
  have:=posB_le hu h
  omega
 rcases Int.lt_or_le k w.2 with h' | h'
 ·left
  have g1:=posA_ge hu h
  have g2:=posB_le hw h'
  simp only [stopP,Bool.or_eq_true,decide_eq_true_eq]
  by_cases hA:posA d k=k
  ·exact .inl hA
  right
  obtain⟨_,_,_,_,u3⟩:=hd.pv u hu
  obtain⟨_,_,_,_,w3⟩:=hd.pv w hw
  have hdl:((posL d k).length:Int)=posB d k - posA d k:=cutV_len d1 (by omega) d3
  have hall : ∀ j (hj : j < (posL d k).length), (posL d k)[j] = medI (posL c k) := fun j hj => by
   obtain⟨j1,j2,j3⟩:=cutV_get (xs:=d.vals) d1 d3 hj
   have w1:=u3 _ j1
   have w2:=w3 _ j1
   refine Eq.trans j3 ?_
   omega
  have hkB2:=d4 hA
  simp only [allSame,List.all_eq_true,decide_eq_true_eq]
  intro y hy
  obtain⟨j,hj,rfl⟩:=List.mem_iff_getElem.1 hy
  rw [hall j hj,getD_at (by omega),hall 0 (by omega)]
 right
 have:=posA_ge hw h'
 omega
/-- How many rounds there are, and that the last one stops. -/
theorem goP_lev (k : Int) : ∀ (f g : Nat) (c : Crk) (r : Int), isCrk c = true → 0 ≤ k ∧ k ≤ c.vals.length → (posB c k - posA c k).toNat ≤ g → lev2 g (posB c k - posA c k).toNat < f → (goP k f c r).2 ≤ r + lev2 g (posB c k - posA c k).toNat ∧ stopP (goP k f c r).1 k = true ∧ (zpC (goP k f c r).1).Perm (zpC c)
 | 0,g,c,r,_,_,_,h=>absurd h (by omega)
 | f + 1, g, c, r, hc, hk, hg, hf => by
  rw [goP]
  split
  ·rename_i h
   exact⟨by omega,h,List.Perm.refl _⟩
  rename_i h
  have hs:stopP c k=false:=by simpa using h
  obtain⟨b1,b2,k1,k2,k3,_⟩:=step_ok hc hk hs
  obtain⟨q1,q2,q3,q4,_,_⟩:=pos_in hc hk
  have hpm:(zpC (stepP c k)).Perm (zpC c):=(crack_perm k1 b2).trans (crack_perm hc b1)
  have hs2:=hs
  simp only [stopP,Bool.or_eq_false_iff,decide_eq_false_iff_not] at hs2
  have hkB:=q4 hs2.1
  have h2 : 2 ≤ (posB c k - posA c k).toNat := by
   rcases Nat.lt_or_ge (posB c k - posA c k).toNat 2 with h'|h'
   ·exfalso
    have hlen:((posL c k).length:Int)=posB c k - posA c k:=cutV_len q1 (by omega) q3
    have : allSame (posL c k) = true := by
     simp only [allSame,List.all_eq_true,decide_eq_true_eq]
     intro y hy
     obtain⟨j,hj,rfl⟩:=List.mem_iff_getElem.1 hy
     obtain rfl:j=0:=by omega
     rw [getD_at hj]
    rw [this] at hs2
    exact Bool.noConfusion hs2.2
   exact h'
  obtain⟨g',rfl,e⟩:=lev2_half h2 hg
  rcases step_half hc hk hs with h3|h3
  ·cases f with
   | zero=>omega
   | succ f =>
    have e2:goP k (f+1) (stepP c k) (r+1)=(stepP c k,r+1):=by rw [goP,if_pos h3]
    rw [e2]
    exact⟨by dsimp only;omega,h3,hpm⟩
  have hm := lev2_mono g' g' (posB (stepP c k) k - posA (stepP c k) k).toNat ((posB c k - posA c k).toNat / 2) (by omega) (by omega) (by omega)
  obtain⟨n1,n2,n3⟩:=goP_lev k f g' (stepP c k) (r+1) k2 (by rw [k3];exact hk) (by omega) (by omega)
  exact⟨by omega,n2,n3.trans hpm⟩

end Go.Proofs.Ytcepgfcolmdnoaa.E
