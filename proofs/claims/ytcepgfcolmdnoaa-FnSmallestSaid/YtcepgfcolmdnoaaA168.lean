/- Walks through functions, by program out of the session's annotations. -/
import Derived.Test.YtcepgfcolmdnoaaA167
namespace Go.Proofs.Ytcepgfcolmdnoaa.E
open Go Go.RowKit Go.Proofs
set_option linter.unusedVariables false
set_option linter.unusedSimpArgs false

theorem lev2_le : ∀ f n, lev2 f n ≤ f
 | 0,_=>Nat.le_refl _
 | f + 1, n => by
  have:=lev2_le f (n / 2)
  rw [lev2]
  split<;>omega
theorem stop_part {c : Crk} {k : Int} (hc : isCrk c = true) (hk : 0 ≤ k ∧ k ≤ c.vals.length) (hs : stopP c k = true) (i j : Nat) (hi : (i : Int) < k) (hj : k ≤ j) (hjn : j < c.vals.length) : c.vals.getD i 0 ≤ c.vals.getD j 0 := by
 have ho:=(crk_iff c).1 hc
 obtain⟨q1,q2,q3,q4,_,_⟩:=pos_in hc hk
 have hkn:k ≠ c.vals.length:=by omega
 obtain⟨e1,e2⟩:=pos_ends hkn
 have part : ∀ p ∈ c.piv, (i : Int) < p.2 → p.2 ≤ j → c.vals.getD i 0 ≤ c.vals.getD j 0 := by
  intro p hp h1 h2
  obtain⟨_,_,_,_,a3⟩:=ho.pv p hp
  have g1:=a3 i (by omega)
  have g2:=a3 j hjn
  omega
 simp only [stopP,Bool.or_eq_true,decide_eq_true_eq] at hs
 by_cases hA:posA c k=k
 ·rcases e1 with h | ⟨p, hp, ep⟩
  ·omega
  exact part p hp (by omega) (by omega)
 have hkB := q4 hA
 have hall : allSame (posL c k) = true := by
  rcases hs with h|h
  ·exact absurd h hA
  exact h
 rcases Int.lt_or_le (i:Int) (posA c k) with h1|h1
 ·rcases e1 with h | ⟨p, hp, ep⟩
  ·omega
  exact part p hp (by omega) (by omega)
 rcases Int.lt_or_le (j : Int) (posB c k) with h2 | h2
 ·have hlen : ((posL c k).length : Int) = posB c k - posA c k := cutV_len q1 (by omega) q3
  have get : ∀ m : Nat, posA c k ≤ m → (m : Int) < posB c k → c.vals.getD m 0 = (posL c k).getD 0 0 := by
   intro m hm1 hm2
   have hlt:m - (posA c k).toNat<(posL c k).length:=by omega
   obtain⟨_,_,g3⟩:=cutV_get (xs:=c.vals) q1 q3 hlt
   simp only [allSame,List.all_eq_true,decide_eq_true_eq] at hall
   have h5:=hall _ (List.getElem_mem hlt)
   rw [show (posA c k).toNat+(m - (posA c k).toNat)=m by omega] at g3
   rw [← g3];exact h5
  have g1:=get i (by omega) (by omega)
  have g2:=get j (by omega) h2
  omega
 rcases e2 with h | ⟨p, hp, ep⟩
 ·omega
 exact part p hp (by omega) (by omega)
theorem sort_parts {xs : List Int} {k : Nat} (h : ∀ i j, i < k → k ≤ j → j < xs.length → xs.getD i 0 ≤ xs.getD j 0) (hk : k ≤ xs.length) : sortI (xs.take k) = (sortI xs).take k ∧ sortI (xs.drop k) = (sortI xs).drop k := by
 have e : sortI (xs.take k) ++ sortI (xs.drop k) = sortI xs := by
  refine sortI_eq ?_ ?_
  ·have := (sortI_perm (xs.take k)).append (sortI_perm (xs.drop k))
   rwa [List.take_append_drop] at this
  refine List.pairwise_append.2 ⟨sortI_pw _, sortI_pw _, fun a ha b hb => ?_⟩
  have ha:=(sortI_perm _).mem_iff.1 ha
  have hb:=(sortI_perm _).mem_iff.1 hb
  obtain⟨i,hi,rfl⟩:=List.mem_iff_getElem.1 ha
  obtain⟨j,hj,rfl⟩:=List.mem_iff_getElem.1 hb
  rw [List.length_take] at hi
  rw [List.length_drop] at hj
  rw [List.getElem_take,List.getElem_drop]
  have:=h i (k+j) (by omega) (by omega) (by omega)
  rw [getD_at (by omega),getD_at (by omega)] at this
  exact this
 have hl:(sortI (xs.take k)).length=k:=by rw [sortI_len,List.length_take];omega
 rw [← e]
 exact⟨(List.take_left' hl).symm,(List.drop_left' hl).symm⟩
structure SmOk (c : Crk) (k : Int) : Prop where
 ok:isCrk (cpC c k)=true
 pr:prL (cpC c k)=prL c
 n:cpN c k≤lev2 64 c.vals.length
 lo:smL c k=(sortI c.vals).take k.toNat
 hi:sortI (cutV (cpC c k).vals k c.vals.length)=(sortI c.vals).drop k.toNat
theorem sm_law {c : Crk} {k : Int} (hk : cpK c k = true) : SmOk c k := by
 obtain⟨hc,h0,hn⟩:=cpK_parts hk
 have ho:=(crk_iff c).1 hc
 have hl:=crk_lens hc
 obtain⟨q1,q2,q3,_,_,_⟩:=pos_in hc ⟨h0,hn⟩
 have hlv:=lev2_le 64 (posB c k - posA c k).toNat
 have hmo:=lev2_mono 64 64 (posB c k - posA c k).toNat c.vals.length (by omega) (by omega) (by omega)
 obtain⟨g1,g2,g3⟩:=goP_lev k 4000 64 c 0 hc ⟨h0,hn⟩ (by omega) (by omega)
 obtain⟨o1,o2⟩:=goP_ok k 4000 c 0 hc ⟨h0,hn⟩
 have eC:cpC c k=(goP k 4000 c 0).1:=by rw [cpC,if_pos hk]
 have eN:cpN c k=(goP k 4000 c 0).2:=by rw [cpN,if_pos hk]
 have eS:smL c k=sortI (cutV (cpC c k).vals ((0:Nat):Int) k):=by rw [smL,if_pos hk]
 rw [eC] at eS
 have hd:=(crk_iff _).1 o1
 have hvp:=vals_perm ho hd g3
 have hst:=stop_part o1 (by rw [o2];exact⟨h0,hn⟩) g2
 generalize goP k 4000 c 0=X at *
 obtain⟨kn,rfl⟩:∃ kn:Nat,k=kn:=⟨k.toNat,by omega⟩
 obtain⟨s1,s2⟩:=sort_parts (xs:=X.1.vals) (k:=kn) (fun i j h1 h2 h3=>hst i j (by omega) (by omega) h3) (by omega)
 rw [sortI_of hvp] at s1 s2
 refine⟨by rw [eC];exact o1,by rw [eC];exact prL_of hd.rl ho.rl g3,by rw [eN];omega,?_,?_⟩
 ·rw [eS, Int.toNat_natCast, ← s1, cutV]
  simp
 rw [eC,Int.toNat_natCast,← s2,cutV,List.take_of_length_le (by rw [List.length_drop];omega),Int.toNat_natCast]
theorem kv_law {c : Crk} {k : Int} (hk : kvK c k = true) : isCrk (kvC c k) = true ∧ kvV c k = (sortI c.vals).getD k.toNat 0 := by
 obtain⟨hc,h0,hn⟩:=kvK_parts hk
 have hk1:cpK c (k+1)=true:=by simp only [cpK,Bool.and_eq_true,decide_eq_true_eq];exact⟨⟨hc,by omega⟩,by omega⟩
 have h:=sm_law hk1
 refine⟨by rw [kvC,if_pos hk];exact h.ok,?_⟩
 rw [kvV,if_pos hk,h.lo,List.getD_eq_getElem?_getD,List.getD_eq_getElem?_getD,List.getElem?_take,if_pos (by omega)]
theorem lg_law {c : Crk} {k : Int} (hk : cpK c k = true) : ((lgL c k).length : Int) = k ∧ ∀ i : Nat, (i : Int) < k → (lgL c k).getD i 0 = (sortI c.vals).getD (c.vals.length - 1 - i) 0 := by
 obtain⟨hc,h0,hn⟩:=cpK_parts hk
 have h:=(sm_law (cpK_rev hk)).hi
 have e : lgL c k = ((sortI c.vals).drop (c.vals.length - k.toNat)).reverse := by
  rw [lgL,if_pos hk,h,show ((c.vals.length:Int) - k).toNat=c.vals.length - k.toNat by omega]
 have hsl:=sortI_len c.vals
 have hl:(lgL c k).length=k.toNat:=by rw [e,List.length_reverse,List.length_drop];omega
 refine⟨by omega,fun i hi=>?_⟩
 rw [e,List.getD_eq_getElem?_getD,List.getD_eq_getElem?_getD,List.getElem?_reverse (by rw [List.length_drop];omega),List.getElem?_drop,List.length_drop]
 congr 2
 omega

end Go.Proofs.Ytcepgfcolmdnoaa.E
