/- Walks through functions, by program out of the session's annotations. -/
import Derived.Test.YtlodlnbhjghjoaaGreatA164
import Derived.Test.YtlodlnbhjghjoaaGreatA54
namespace Go.Proofs.YtlodlnbhjghjoaaGreat.E
open Go Go.RowKit Go.Proofs
set_option linter.unusedVariables false
set_option linter.unusedSimpArgs false

/-- The values of a column in a range, as they stand. -/
def viN (c : Crk) (r : Int × Int) : Nat → List Int
 | 0=>[]
 | k+1=>if inR r (c.vals.getD k 0)=true then viN c r k++[c.vals.getD k 0] else viN c r k
theorem viN_at {c:Crk} {r:Int × Int} {k:Nat} {x:Int} (hx:c.vals[k]? = some x):viN c r (k+1)=if inR r x=true then viN c r k++[x] else viN c r k:=by rw [viN,getD_of hx]
theorem viN_len (c : Crk) (r : Int × Int) : ∀ k, (viN c r k).length ≤ k
 | 0=>Nat.le_refl _
 | k + 1 => by
  have:=viN_len c r k
  rw [viN]
  split
  ·rw [List.length_append,List.length_singleton];omega
  omega
theorem viN_fil (c : Crk) (r : Int × Int) : ∀ k, k ≤ c.vals.length → viN c r k = (c.vals.take k).filter (inR r)
 | 0,_=>rfl
 | k + 1, hk => by
  obtain⟨x,hx⟩:=at_lt (l:=c.vals) (k:=k) (by omega)
  rw [viN_at hx,viN_fil c r k (by omega),List.take_add_one,hx,List.filter_append]
  split
  ·rename_i h
   simp [h]
  rename_i h
  simp [h]
theorem in_piece {c : Crk} (hc : isCrk c = true) {i : Int} (h0 : 0 ≤ i) : ∀ k, k ≤ c.piv.length + 1 → i < lastK c k → ∃ j, j < k ∧ lastK c j ≤ i ∧ i < zOf c.piv c.vals.length j
 | 0,_,h=>by simp [lastK] at h;omega
 | k + 1, hk, h => by
  rw [lastK_step] at h
  rcases Int.lt_or_le i (lastK c k) with h'|h'
  ·obtain ⟨j, h1, h2⟩ := in_piece hc h0 k (by omega) h'
   exact⟨j,by omega,h2⟩
  exact⟨k,by omega,h',h⟩
theorem lastK_end (c:Crk):lastK c (c.piv.length+1)=c.vals.length:=by rw [lastK_step,zOf_end]
theorem pw_adj {l : List Int} {a b : Nat} (h : ∀ i, a ≤ i → i + 1 < b → l.getD i 0 ≤ l.getD (i + 1) 0) : ∀ d i, a ≤ i → i + d < b → l.getD i 0 ≤ l.getD (i + d) 0
 | 0,i,_,_=>Int.le_refl _
 | d+1,i,h1,h2=>Int.le_trans (pw_adj h d i h1 (by omega)) (h (i+d) (by omega) (by omega))
structure SrOk (q X : Crk) (lo hi : Nat) : Prop where
 part:(hi:Int) - lo≤spart X
 pw:List.Pairwise (fun a b:Int=>a≤b) (cutV X.vals lo hi)
theorem sr_ok {q : Crk} {lo hi : Nat} (hq : isCrk q = true) (hle : lo ≤ hi) (hhi : hi ≤ q.vals.length) (p1 : ∃ p ∈ q.piv, p.2 = (lo : Int)) (p2 : ∃ p ∈ q.piv, p.2 = (hi : Int)) : SrOk q (sgN (srF lo hi) q (q.piv.length + 1)) lo hi := by
 obtain⟨i1,i2,i3⟩:=sgN_srt (f:=srF lo hi) hq (q.piv.length+1) (Nat.le_refl _)
 have hs:=sgN_len (f:=srF lo hi) hq (q.piv.length+1) (Nat.le_refl _)
 have hpc:=fun j (hj:j≤q.piv.length)=>sg_piece (f:=srF lo hi) hq hj
 generalize sgN (srF lo hi) q (q.piv.length+1)=X at *
 have hX:isCrk X=true:=(crk_iff X).2 i1
 have hsv:=hs.v
 obtain⟨pl,hpl,epl⟩:=p1
 obtain⟨ph,hph,eph⟩:=p2
 have ha:∀ j,j≤q.piv.length→(lo:Int)≤lastK q j∨zOf q.piv q.vals.length j≤lo:=fun j hj=>by have:=piv_piece hq hj pl hpl;omega
 have hb:∀ j,j≤q.piv.length→(hi:Int)≤lastK q j∨zOf q.piv q.vals.length j≤hi:=fun j hj=>by have:=piv_piece hq hj ph hph;omega
 have hsel:∀ j,j≤q.piv.length→(lo:Int)≤lastK q j→zOf q.piv q.vals.length j≤hi→srF lo hi (lastK q j,zOf q.piv q.vals.length j)=true:=fun j hj h1 h2=>by simp [srF,h1,h2]
 constructor
 ·have main : ∀ k, k ≤ q.piv.length + 1 → (lastK q k ≤ hi → lastK q k - lo ≤ partN X k) ∧ ((hi : Int) ≤ lastK q k → (hi : Int) - lo ≤ partN X k) := by
   intro k
   induction k with
   | zero=>intro _;simp [lastK,partN];omega
   | succ k ih =>
    intro hk
    have ih:=ih (by omega)
    have hbd:=last_bounds hq (k:=k) (by omega)
    have hpb:=partN_bd hX k (by rw [hs.p];omega)
    obtain⟨e1,e2⟩:=same_last hs k
    have h1:=ha k (by omega)
    have h2:=hb k (by omega)
    have e3:partN X (k+1)=partN X k+szP X (lastK q k) (zOf q.piv q.vals.length k):=by rw [partN,e1,e2]
    rw [lastK_step,e3]
    have h3:0≤szP X (lastK q k) (zOf q.piv q.vals.length k):=by rw [szP];split<;>omega
    rcases h1 with h1|h1
    ·rcases h2 with h2 | h2
     ·omega
     have h4 : szP X (lastK q k) (zOf q.piv q.vals.length k) = zOf q.piv q.vals.length k - lastK q k := by
      rw [szP,hpc k (by omega),hsel k (by omega) h1 h2];rfl
     omega
    omega
  have hm:=(main _ (Nat.le_refl _)).2 (by rw [lastK_end];omega)
  rw [spart,if_pos hX,hs.p]
  exact hm
 have adj : ∀ i, lo ≤ i → i + 1 < hi → X.vals.getD i 0 ≤ X.vals.getD (i + 1) 0 := by
  intro i h1 h2
  obtain⟨j,hj,g1,g2⟩:=in_piece hq (i:=(i:Int)) (by omega) (q.piv.length+1) (Nat.le_refl _) (by rw [lastK_end];omega)
  have hbd:=last_bounds hq (k:=j) (by omega)
  have h3:=ha j (by omega)
  have h4:=hb j (by omega)
  rcases Int.lt_or_le ((i:Int)+1) (zOf q.piv q.vals.length j) with h5|h5
  ·have hf := hsel j (by omega) (by omega) (by omega)
   have e:=i3 j (by omega)
   rw [if_pos ⟨hf,by omega⟩] at e
   have hpw:=sortE_pw (cutZ (zpC q) (lastK q j).toNat (zOf q.piv q.vals.length j).toNat)
   rw [← e] at hpw
   have hzl:=zp_len i1
   have hcl:(cutZ (zpC X) (lastK q j).toNat (zOf q.piv q.vals.length j).toNat).length=(zOf q.piv q.vals.length j).toNat - (lastK q j).toNat:=cutZ_len (by omega) (by omega)
   have hle2:=List.pairwise_iff_getElem.1 hpw (i - (lastK q j).toNat) (i+1 - (lastK q j).toNat) (by omega) (by omega) (by omega)
   have gt : ∀ (m : Nat) (hm : m - (lastK q j).toNat < (cutZ (zpC X) (lastK q j).toNat (zOf q.piv q.vals.length j).toNat).length), (lastK q j).toNat ≤ m → ((cutZ (zpC X) (lastK q j).toNat (zOf q.piv q.vals.length j).toNat)[m - (lastK q j).toNat]).1 = X.vals.getD m 0 := by
    intro m hm hm2
    have h6:=List.getElem?_eq_getElem hm
    generalize (cutZ (zpC X) (lastK q j).toNat (zOf q.piv q.vals.length j).toNat)[m - (lastK q j).toNat]=p at h6 ⊢
    rw [cutZ_at,if_pos (by omega),show (lastK q j).toNat+(m - (lastK q j).toNat)=m by omega] at h6
    have h7:=(List.getElem?_zip_eq_some (l₁:=X.vals) (l₂:=X.rows)).1 h6
    exact (getD_of h7.1).symm
   rw [← gt i (by omega) (by omega),← gt (i+1) (by omega) (by omega)]
   unfold leP at hle2
   omega
  have hjn : j < q.piv.length := by
   rcases Nat.lt_or_ge j q.piv.length with h'|h'
   ·exact h'
   obtain rfl : j = q.piv.length := by omega
   rw [zOf_end] at h5;omega
  obtain⟨p,hp⟩:=at_lt hjn
  rw [zOf_at hp] at g2 h5
  have hpX:p ∈ X.piv:=by rw [hs.p];exact List.mem_of_getElem? hp
  obtain⟨_,_,_,_,h7⟩:=i1.pv p hpX
  have h8:=h7 i (by omega)
  have h9:=h7 (i+1) (by omega)
  omega
 refine List.pairwise_iff_getElem.2 fun i j hi' hj' hij=>?_
 obtain⟨_,k1,k2⟩:=cutV_get (xs:=X.vals) (a:=(lo:Int)) (b:=(hi:Int)) (by omega) (by omega) hi'
 obtain⟨_,m1,m2⟩:=cutV_get (xs:=X.vals) (a:=(lo:Int)) (b:=(hi:Int)) (by omega) (by omega) hj'
 rw [k2,m2,Int.toNat_natCast]
 have:=pw_adj adj (j - i) (lo+i) (by omega) (by omega)
 rwa [show lo+i+(j - i)=lo+j by omega] at this
/-- A column that is divided at both ends of a range has the range's values between. -/
theorem vals_mid {X : Crk} {r : Int × Int} (ho : CrkOk X) (hr : isRng r = true) (h1 : isPv X.piv r.1 = true) (h2 : isPv X.piv r.2 = true) (hle : fpAt X.piv r.1 ≤ fpAt X.piv r.2) : X.vals.filter (inR r) = cutV X.vals (fpAt X.piv r.1) (fpAt X.piv r.2) := by
 obtain⟨_,_,a1,a2,a3⟩:=ho.pv _ (fp_mem h1)
 obtain⟨_,_,b1,b2,b3⟩:=ho.pv _ (fp_mem h2)
 dsimp only at a1 a2 a3 b1 b2 b3
 rw [filter_mid (fun z : Int => inR r z) X.vals (fpAt X.piv r.1).toNat (fpAt X.piv r.2).toNat (by omega) (by omega) (fun i z hzz => by
  have hi:=lt_of_at hzz
  have e1:=a3 i hi
  have e2:=b3 i hi
  rw [getD_of hzz] at e1 e2
  simp only [inR,hr,Bool.true_and,Bool.and_eq_true,decide_eq_true_eq]
  omega)]
 rw [cutV]
structure SrLaw (c : Crk) (r : Int × Int) : Prop where
 ok:isCrk (srC c r)=true
 ls:srL c r=sortI (viN c r c.vals.length)
 pr:prL (srC c r)=prL c
 part:((srL c r).length:Int)≤spart (srC c r)
theorem sr_law {c : Crk} {r : Int × Int} (hsk : selK c r = true) : SrLaw c r := by
 have hcr:isCrk c=true∧isRng r=true:=by simpa [selK] using hsk
 obtain⟨hc,hr⟩:=hcr
 have hbd:=rng_bnd hr
 have hin:=sel_in hsk
 have h1:=(crackC_ok hc hbd.1).1
 have e:selC c r=(crackC (crackC c r.1).1 r.2).1:=by rw [selC,if_pos hsk,sel2]
 have e1:selLo c r=fpAt (selC c r).piv r.1:=by rw [e,selLo,if_pos hsk,sel2]
 have e2:selHi c r=fpAt (selC c r).piv r.2:=by rw [e,selHi,if_pos hsk,sel2]
 have p1:isPv (selC c r).piv r.1=true:=by rw [e];exact crackC_keep crackC_pv
 have p2:isPv (selC c r).piv r.2=true:=by rw [e];exact crackC_pv
 have hpm:(zpC (selC c r)).Perm (zpC c):=by rw [e];exact (crack_perm h1 hbd.2).trans (crack_perm hc hbd.1)
 have eX:srC c r=sgN (srF (selLo c r) (selHi c r)) (selC c r) ((selC c r).piv.length+1):=by rw [srC,if_pos hsk]
 have eL:srL c r=cutV (srC c r).vals (selLo c r) (selHi c r):=by rw [srL,if_pos hsk]
 obtain⟨hqc,n1,n2,n3,n4⟩:=hin
 have hmid : ∀ X : Crk, CrkOk X → X.piv = (selC c r).piv → (zpC X).Perm (zpC c) → (cutV X.vals (selLo c r) (selHi c r)).Perm (viN c r c.vals.length) := by
  intro X ho hpv hz
  have hcl:=crk_lens hc
  have m1:=vals_mid (X:=X) (r:=r) ho hr (by rw [hpv];exact p1) (by rw [hpv];exact p2) (by rw [hpv,← e1,← e2];exact n2)
  rw [hpv,← e1,← e2] at m1
  rw [← m1,viN_fil c r _ (Nat.le_refl _),List.take_length]
  have m2:(zpC X).map (·.1)=X.vals:=List.map_fst_zip (l₁:=X.vals) (l₂:=X.rows) (by have:=ho.rl;omega)
  have m3:(zpC c).map (·.1)=c.vals:=List.map_fst_zip (l₁:=c.vals) (l₂:=c.rows) (by omega)
  have m4:=(hz.map (·.1)).filter (inR r)
  rw [m2,m3] at m4
  exact m4
 have hmem1:=fp_mem p1
 have hmem2:=fp_mem p2
 rw [← e1] at hmem1
 rw [← e2] at hmem2
 generalize selC c r=q at *
 generalize selLo c r=lo at *
 generalize selHi c r=hi at *
 obtain⟨u,rfl⟩:∃ u:Nat,lo=u:=⟨lo.toNat,by omega⟩
 obtain⟨w,rfl⟩:∃ w:Nat,hi=w:=⟨hi.toNat,by omega⟩
 have hk:=sr_ok (lo:=u) (hi:=w) hqc (by omega) (by omega) ⟨_,hmem1,rfl⟩ ⟨_,hmem2,rfl⟩
 obtain⟨i1,i2,_⟩:=sgN_srt (f:=srF u w) hqc (q.piv.length+1) (Nat.le_refl _)
 have hs:=sgN_len (f:=srF u w) hqc (q.piv.length+1) (Nat.le_refl _)
 have hsv:=hs.v
 have hcl:=crk_lens hc
 refine⟨by rw [eX];exact (crk_iff _).2 i1,?_,by rw [eX];exact prL_of i1.rl hcl.2.1 (i2.trans hpm),?_⟩
 ·rw [eL, eX]
  exact sortI_eq (hmid _ i1 hs.p (i2.trans hpm)) hk.pw
 rw [eL, eX, cutV_len (by omega) (by omega) (by omega)]
 exact hk.part

end Go.Proofs.YtlodlnbhjghjoaaGreat.E
