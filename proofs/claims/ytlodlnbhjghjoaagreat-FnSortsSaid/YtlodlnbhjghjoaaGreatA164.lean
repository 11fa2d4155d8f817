/- Walks through functions, by program out of the session's annotations. -/
import Derived.Test.YtlodlnbhjghjoaaGreatA131
import Derived.Test.YtlodlnbhjghjoaaGreatA71
namespace Go.Proofs.YtlodlnbhjghjoaaGreat.E
open Go Go.RowKit Go.Proofs
set_option linter.unusedVariables false
set_option linter.unusedSimpArgs false

theorem seg_split (Z : List (Int × Int)) {a b : Nat} (hab : a ≤ b) : Z.take a ++ ((Z.drop a).take (b - a) ++ Z.drop b) = Z := by
 have h1:Z.drop b=(Z.drop a).drop (b - a):=by rw [List.drop_drop,show a+(b - a)=b by omega]
 rw [h1,List.take_append_drop,List.take_append_drop]
theorem segP_perm (Z : List (Int × Int)) {a b : Nat} (hab : a ≤ b) : (segP Z a b).Perm Z := by
 have h:=List.Perm.append_left (Z.take a) ((sortE_perm ((Z.drop a).take (b - a))).append_right (Z.drop b))
 rw [seg_split Z hab] at h
 exact h
theorem segP_at {Z : List (Int × Int)} {a b : Nat} (hab : a ≤ b) (hb : b ≤ Z.length) (q : Nat) : (segP Z a b)[q]? = if a ≤ q ∧ q < b then (sortE ((Z.drop a).take (b - a)))[q - a]? else Z[q]? := by
 have h1:(Z.take a).length=a:=by rw [List.length_take];omega
 have h2:(sortE ((Z.drop a).take (b - a))).length=b - a:=by rw [sortE_len,List.length_take,List.length_drop];omega
 rw [segP]
 rcases Nat.lt_or_ge q a with h|h
 ·rw [if_neg (by omega),List.getElem?_append_left (by omega),List.getElem?_take,if_pos h]
 rw [List.getElem?_append_right (by omega), h1]
 rcases Nat.lt_or_ge q b with h'|h'
 ·rw [if_pos ⟨h,h'⟩,List.getElem?_append_left (by omega)]
 rw [if_neg (by omega),List.getElem?_append_right (by omega),h2,List.getElem?_drop,show b+(q - a - (b - a))=q by omega]
def cutZ (Z:List (Int × Int)) (a b:Nat):List (Int × Int):=(Z.drop a).take (b - a)
theorem cutZ_at {Z : List (Int × Int)} {a b q : Nat} : (cutZ Z a b)[q]? = if a + q < b then Z[a + q]? else none := by
 rw [cutZ,List.getElem?_take,List.getElem?_drop]
 by_cases h:a+q<b
 ·rw [if_pos h,if_pos (by omega)]
 rw [if_neg h,if_neg (by omega)]
theorem cutZ_len {Z : List (Int × Int)} {a b : Nat} (hab : a ≤ b) (hb : b ≤ Z.length) : (cutZ Z a b).length = b - a := by
 rw [cutZ,List.length_take,List.length_drop];omega
theorem cut_same {Z : List (Int × Int)} {a b : Nat} (hab : a ≤ b) (hb : b ≤ Z.length) : cutZ (segP Z a b) a b = sortE (cutZ Z a b) := by
 refine List.ext_getElem? fun q=>?_
 rw [cutZ_at,segP_at hab hb]
 by_cases h:a+q<b
 ·rw [if_pos h,if_pos (by omega),show a+q - a=q by omega];rfl
 rw [if_neg h,List.getElem?_eq_none (by rw [sortE_len,cutZ_len hab hb];omega)]
theorem cut_other {Z : List (Int × Int)} {a b a' b' : Nat} (hab : a ≤ b) (hb : b ≤ Z.length) (hd : b' ≤ a ∨ b ≤ a') : cutZ (segP Z a b) a' b' = cutZ Z a' b' := by
 refine List.ext_getElem? fun q=>?_
 rw [cutZ_at,cutZ_at]
 by_cases h:a'+q<b'
 ·rw [if_pos h,if_pos h,segP_at hab hb,if_neg (by omega)]
 rw [if_neg h,if_neg h]
theorem segZ_ok {Z P : List (Int × Int)} {a b : Nat} (h : ZOk Z P) (hab : a ≤ b) (hb : b ≤ Z.length) (hp : ∀ p ∈ P, p.2 ≤ (a : Int) ∨ (b : Int) ≤ p.2) : ZOk (segP Z a b) P := by
 have hpm:=segP_perm Z hab
 refine⟨by rw [segP_len hab hb];exact h.vl,fun z hz=>h.el z (hpm.mem_iff.1 hz),((hpm.map (·.2)).nodup_iff).2 h.nd,fun p hpp=>?_,h.so⟩
 obtain⟨h1,h2,h3,h4,h5⟩:=h.pv p hpp
 refine⟨h1,h2,h3,by rw [segP_len hab hb];exact h4,fun q z hz=>?_⟩
 rw [segP_at hab hb] at hz
 split at hz
 ·rename_i hq
  have hm:z ∈ (Z.drop a).take (b - a):=(sortE_perm _).mem_iff.1 (List.mem_of_getElem? hz)
  obtain⟨i,hi⟩:=List.getElem?_of_mem hm
  rw [List.getElem?_take] at hi
  split at hi
  ·rw [List.getElem?_drop] at hi
   have h6:=h5 (a+i) z hi
   have h7:=hp p hpp
   omega
  cases hi
 exact h5 q z hz
theorem zp_len {c:Crk} (h:CrkOk c):(zpC c).length=c.vals.length:=by simp [zpC,h.rl]
theorem segC_ok {c : Crk} {a b : Nat} (h : CrkOk c) (hab : a ≤ b) (hb : b ≤ c.vals.length) (hp : ∀ p ∈ c.piv, p.2 ≤ (a : Int) ∨ (b : Int) ≤ p.2) : CrkOk (segC c a b) ∧ zpC (segC c a b) = segP (zpC c) a b :=
 ⟨(segZ_ok h.z hab (by rw [zp_len h];exact hb) hp).ok,zip_crkZ _ c.piv⟩
theorem lastK_mono {c : Crk} (h : isCrk c = true) {j : Nat} : ∀ d, j + d ≤ c.piv.length + 1 → lastK c j ≤ lastK c (j + d)
 | 0,_=>Int.le_refl _
 | d + 1, hd => by
  have h1:=lastK_mono h d (j:=j) (by omega)
  have h2:=last_bounds h (k:=j+d) (by omega)
  rw [show j+(d+1)=j+d+1 by omega,lastK_step]
  omega
theorem lastK_le {c : Crk} (h : isCrk c = true) {j k : Nat} (hjk : j ≤ k) (hk : k ≤ c.piv.length + 1) : lastK c j ≤ lastK c k := by
 obtain⟨d,rfl⟩:=Nat.exists_eq_add_of_le hjk
 exact lastK_mono h d hk
theorem piv_piece {c : Crk} (h : isCrk c = true) {k : Nat} (hk : k ≤ c.piv.length) : ∀ p ∈ c.piv, p.2 ≤ lastK c k ∨ zOf c.piv c.vals.length k ≤ p.2 := by
 intro p hp
 obtain⟨i,hi⟩:=List.getElem?_of_mem hp
 have hil:=lt_of_at hi
 have e:lastK c (i+1)=p.2:=by rw [lastK_step,zOf_at hi]
 rcases Nat.lt_or_ge i k with h'|h'
 ·left;rw [← e];exact lastK_le h (by omega) (by omega)
 right;rw [← e,← lastK_step];exact lastK_le h (by omega) (by omega)
/-- What stands behind the sorting of pieces. -/
theorem sgN_srt {f : Int × Int → Bool} {c : Crk} (hc : isCrk c = true) : ∀ k, k ≤ c.piv.length + 1 → CrkOk (sgN f c k) ∧ (zpC (sgN f c k)).Perm (zpC c) ∧ ∀ j, j ≤ c.piv.length → cutZ (zpC (sgN f c k)) (lastK c j).toNat (zOf c.piv c.vals.length j).toNat = if f (lastK c j, zOf c.piv c.vals.length j) = true ∧ j < k then sortE (cutZ (zpC c) (lastK c j).toNat (zOf c.piv c.vals.length j).toNat) else cutZ (zpC c) (lastK c j).toNat (zOf c.piv c.vals.length j).toNat
 | 0,_=>⟨(crk_iff c).1 hc,List.Perm.refl _,fun j _=>by rw [if_neg (by omega)];rfl⟩
 | k + 1, hk => by
  obtain⟨i1,i2,i3⟩:=sgN_srt (f:=f) hc k (by omega)
  have hs:=sgN_len (f:=f) hc k (by omega)
  have hb:=last_bounds hc (k:=k) (by omega)
  have hpp:=piv_piece hc (k:=k) (by omega)
  have hz:=zp_len i1
  have hsv:=hs.v
  rw [sgN,sgStep]
  split
  ·rename_i hf
   dsimp only
   have hab:(lastK c k).toNat≤(zOf c.piv c.vals.length k).toNat:=by omega
   obtain⟨k1,k2⟩:=segC_ok (a:=(lastK c k).toNat) (b:=(zOf c.piv c.vals.length k).toNat) i1 hab (by omega) (fun p hp=>by rw [hs.p] at hp;have:=hpp p hp;omega)
   refine⟨k1,by rw [k2];exact (segP_perm _ hab).trans i2,fun j hj=>?_⟩
   have hbj:=last_bounds hc (k:=j) hj
   rw [k2]
   rcases Nat.lt_trichotomy j k with h|h|h
   ·have hm := lastK_le hc (j := j + 1) (k := k) (by omega) (by omega)
    rw [lastK_step] at hm
    rw [cut_other hab (by omega) (by omega),i3 j hj]
    by_cases hfj:f (lastK c j,zOf c.piv c.vals.length j)=true
    ·rw [if_pos ⟨hfj,h⟩,if_pos ⟨hfj,by omega⟩]
    rw [if_neg (fun e=>hfj e.1),if_neg (fun e=>hfj e.1)]
   ·subst h
    rw [cut_same hab (by omega),i3 j hj,if_neg (by omega),if_pos ⟨hf,by omega⟩]
   have hm := lastK_le hc (j := k + 1) (k := j) (by omega) (by omega)
   rw [lastK_step] at hm
   rw [cut_other hab (by omega) (by omega),i3 j hj,if_neg (by omega),if_neg (by omega)]
  rename_i hf
  refine⟨i1,i2,fun j hj=>?_⟩
  rw [i3 j hj]
  by_cases hfj:f (lastK c j,zOf c.piv c.vals.length j)=true
  ·by_cases h : j < k
   ·rw [if_pos ⟨hfj,h⟩,if_pos ⟨hfj,by omega⟩]
   by_cases e : j = k
   ·subst e;exact absurd hfj hf
   rw [if_neg (fun e=>h e.2),if_neg (by omega)]
  rw [if_neg (fun e=>hfj e.1),if_neg (fun e=>hfj e.1)]
theorem srt_cut {s : Crk} {a b : Nat} (hl : s.rows.length = s.vals.length) (hab : a ≤ b) (hb : b ≤ s.vals.length) : srt s a b = srtL (cutZ (zpC s) a b) := by
 rw [srt,show ((b:Int) - (a:Int)).toNat=b - a by omega,elems_seg hl _ (by omega)];rfl
theorem srtL_sorted {xs : List (Int × Int)} (h : List.Pairwise leP xs) : srtL xs = true := by
 refine srtL_yes fun i h0 hi=>?_
 have hx:xs[i]? = some xs[i]:=List.getElem?_eq_getElem hi
 have hy:xs[i - 1]? = some (xs[i - 1]'(by omega)):=List.getElem?_eq_getElem (by omega)
 rw [okAt_at hx hy]
 have h1:leP (xs[i - 1]'(by omega)) xs[i]:=List.pairwise_iff_getElem.1 h (i - 1) i (by omega) hi (by omega)
 have h2:¬ cmpE xs[i] (xs[i - 1]'(by omega))<0:=by rw [cmpE_neg];unfold leP at h1;omega
 simp [h2]
theorem same_last {c s : Crk} (h : SameL c s) (k : Nat) : lastK s k = lastK c k ∧ zOf s.piv s.vals.length k = zOf c.piv c.vals.length k := by
 rw [lastK,lastK,h.v,h.p];exact⟨rfl,rfl⟩
/-- A piece of the whole's sorting, as it is told sorted or not. -/
theorem sg_piece {f : Int × Int → Bool} {c : Crk} (hc : isCrk c = true) {j : Nat} (hj : j ≤ c.piv.length) : srt (sgN f c (c.piv.length + 1)) (lastK c j) (zOf c.piv c.vals.length j) = (f (lastK c j, zOf c.piv c.vals.length j) || srt c (lastK c j) (zOf c.piv c.vals.length j)) := by
 obtain⟨i1,i2,i3⟩:=sgN_srt (f:=f) hc (c.piv.length+1) (Nat.le_refl _)
 have hs:=sgN_len (f:=f) hc (c.piv.length+1) (Nat.le_refl _)
 have hsv:=hs.v
 have hb:=last_bounds hc (k:=j) hj
 have hl:=crk_lens hc
 have e:=i3 j hj
 obtain⟨a,ha⟩:∃ a:Nat,lastK c j=a:=⟨_,(Int.toNat_of_nonneg hb.1).symm⟩
 obtain⟨z,hz⟩:∃ z:Nat,zOf c.piv c.vals.length j=z:=⟨(zOf c.piv c.vals.length j).toNat,(Int.toNat_of_nonneg (by omega)).symm⟩
 rw [ha,hz] at e hb ⊢
 rw [Int.toNat_natCast,Int.toNat_natCast] at e
 rw [srt_cut i1.rl (by omega) (by omega),srt_cut hl.2.1 (by omega) (by omega),e]
 by_cases hf:f ((a:Int),(z:Int))=true
 ·rw [if_pos ⟨hf,by omega⟩,hf,srtL_sorted (sortE_pw _)];rfl
 rw [if_neg (fun e=>hf e.1),Bool.eq_false_iff.2 hf];rfl
theorem sg_part {f : Int × Int → Bool} {c : Crk} (hc : isCrk c = true) : ∀ k, k ≤ c.piv.length + 1 → partN c k ≤ partN (sgN f c (c.piv.length + 1)) k
 | 0,_=>Int.le_refl _
 | k + 1, hk => by
  have ih:=sg_part (f:=f) hc k (by omega)
  have hs:=sgN_len (f:=f) hc (c.piv.length+1) (Nat.le_refl _)
  have hb:=last_bounds hc (k:=k) (by omega)
  obtain⟨e1,e2⟩:=same_last hs k
  rw [partN,partN,e1,e2,szP,szP,sg_piece hc (by omega)]
  cases h1:srt c (lastK c k) (zOf c.piv c.vals.length k)
  ·simp only [Bool.or_false, Bool.false_eq_true, if_false]
   split<;>omega
  simp only [Bool.or_true,if_true];omega
theorem sg_ok {f : Int × Int → Bool} {c : Crk} (hc : isCrk c = true) : isCrk (sgN f c (c.piv.length + 1)) = true ∧ (zpC (sgN f c (c.piv.length + 1))).Perm (zpC c) ∧ spart c ≤ spart (sgN f c (c.piv.length + 1)) := by
 obtain⟨i1,i2,_⟩:=sgN_srt (f:=f) hc (c.piv.length+1) (Nat.le_refl _)
 have hs:=sgN_len (f:=f) hc (c.piv.length+1) (Nat.le_refl _)
 have hk:=(crk_iff _).2 i1
 refine⟨hk,i2,?_⟩
 rw [spart,spart,if_pos hc,if_pos hk,hs.p]
 exact sg_part hc _ (Nat.le_refl _)
/-- What SortSmall does. -/
theorem sm_ok {c : Crk} {lim : Int} (hc : isCrk c = true) : isCrk (smC c lim) = true ∧ spart c ≤ spart (smC c lim) := by
 have h:=sg_ok (f:=smF lim) hc
 rw [smC,if_pos hc]
 exact⟨h.1,h.2.2⟩
/-- What SortPiece does. -/
theorem sp_ok {c : Crk} {v : Int} (hk : spK c v = true) : isCrk (spC c v) = true ∧ (zpC (spC c v)).Perm (zpC c) ∧ (isIn v (-999) 999 && srt (spC c v) (aOf (spC c v).piv (cutIx (spC c v).piv v)) (zOf (spC c v).piv (spC c v).vals.length (cutIx (spC c v).piv v))) = true := by
 have hcv:isCrk c=true∧isIn v (-999) 999=true:=by simpa [spK] using hk
 have hc:=hcv.1
 have ho:=(crk_iff c).1 hc
 have hl:=crk_lens hc
 have hkl:=cutIx_le c.piv v
 have hbd:=cut_bounds hc hkl
 have hpp:=piv_piece hc hkl
 rw [lastK_a hkl] at hpp
 obtain⟨a,ha⟩:∃ a:Nat,aOf c.piv (cutIx c.piv v)=a:=⟨_,(Int.toNat_of_nonneg hbd.1).symm⟩
 obtain⟨z,hz⟩:∃ z:Nat,zOf c.piv c.vals.length (cutIx c.piv v)=z:=⟨(zOf c.piv c.vals.length (cutIx c.piv v)).toNat,(Int.toNat_of_nonneg (by omega)).symm⟩
 rw [ha,hz] at hbd hpp
 have e:spC c v=segC c a z:=by rw [spC,if_pos hk,ha,hz,Int.toNat_natCast,Int.toNat_natCast]
 obtain⟨k1,k2⟩:=segC_ok (a:=a) (b:=z) ho (by omega) (by omega) hpp
 have hzl:=zp_len ho
 have hsl:=segC_len (c:=c) (a:=a) (b:=z) hl.2.1 (by omega) (by omega)
 rw [e]
 refine⟨(crk_iff _).2 k1,by rw [k2];exact segP_perm _ (by omega),?_⟩
 have e2:(segC c a z).piv=c.piv:=rfl
 rw [e2,hsl.1,ha,hz,srt_cut k1.rl (by omega) (by omega),k2,cut_same (by omega) (by omega),srtL_sorted (sortE_pw _),hcv.2]
 rfl

end Go.Proofs.YtlodlnbhjghjoaaGreat.E
