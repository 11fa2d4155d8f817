/- Walks through functions, by program out of the session's annotations. -/
import Derived.Test.YthlhmpknngidmaaGreatA52
import Derived.Test.YthlhmpknngidmaaGreatA11
namespace Go.Proofs.YthlhmpknngidmaaGreat.E
open Go Go.RowKit Go.Proofs
set_option linter.unusedVariables false
set_option linter.unusedSimpArgs false

theorem map_parts {m : Mp} (h : isMap m = true) : isCrk m.c = true ∧ areVals m.tail = true ∧ m.tail.length = m.c.vals.length ∧ 0 ≤ m.app ∧ m.app ≤ 60 := by
 simp only [isMap,isIn,Bool.and_eq_true,decide_eq_true_eq] at h
 exact⟨h.1.1.1,h.1.1.2,h.1.2,h.2.1,h.2.2⟩
theorem map_mk {m : Mp} (h1 : isCrk m.c = true) (h2 : areVals m.tail = true) (h3 : m.tail.length = m.c.vals.length) (h4 : 0 ≤ m.app) (h5 : m.app ≤ 60) : isMap m = true := by
 simp [isMap,isIn,h1,h2,h3,h4,h5]
theorem crackC_swIn {c : Crk} {v : Int} (hc : isCrk c = true) (hv : bnd v = true) : swIn 0 c.vals.length (crackC c v).2 := by
 cases hp:isPv c.piv v
 ·obtain ⟨at_, k1, k2, k3, k4, _⟩ := crack_ok hc hv hp
  have hb:=pc_bounds hc v
  have hcr:crackC c v=(withPv (swaped c (partC c v).1) (v,(partC c v).2),(partC c v).1):=by rw [crackC,if_neg (by simp [hp])]
  rw [hcr]
  exact fun s hs=>by have:=k4 s hs;omega
 ·have hcr : crackC c v = (c, []) := by rw [crackC, if_pos hp]
  rw [hcr]
  intro s hs;cases hs
theorem swps_vals {l : List Int} {sw : List (Int × Int)} (hl : areVals l = true) (hs : swIn 0 l.length sw) : areVals (swps l sw) = true := by
 have h:=areVals_parts hl
 simp only [areVals,Bool.and_eq_true,decide_eq_true_eq,List.all_eq_true]
 refine⟨by rw [swps_len];exact h.1,fun x hx=>?_⟩
 obtain⟨q,hq,rfl⟩:=List.mem_iff_getElem.1 hx
 have h1:=swps_at sw l hs q
 rw [getD_at hq] at h1
 rw [swps_len] at hq
 have h2:=((tau_in (a:=0) (b:=l.length) (Int.le_refl _) hs q).1 ⟨by omega,by omega⟩).2
 have h3:tau sw q<l.length:=by omega
 rw [h1,getD_at h3]
 exact h.2 _ (List.getElem_mem h3)
/-- A map cracked. -/
def crkMp (m:Mp) (v:Int):Mp:=⟨(crackC m.c v).1,swps m.tail (crackC m.c v).2,m.app⟩
theorem crkMp_ok {m : Mp} {v : Int} (hm : isMap m = true) (hv : bnd v = true) : isMap (crkMp m v) = true := by
 obtain⟨h1,h2,h3,h4,h5⟩:=map_parts hm
 have hs:=crackC_swIn h1 hv
 exact map_mk (crackC_ok h1 hv).1 (swps_vals h2 (by rw [h3];exact hs)) (by show (swps m.tail _).length=_;rw [swps_len,h3];exact crackC_vals.symm) h4 h5
def cmK (m:Mp) (v:Int):Bool:=isMap m && bnd v
def cmM (m:Mp) (v:Int):Mp:=if cmK m v=true then crkMp m v else m
/-- A map aligned to a history. -/
def alStep (m:Mp) (v:Int):Mp:=⟨(crackC m.c v).1,swps m.tail (crackC m.c v).2,m.app+1⟩
def alGo : List Int → Mp → Mp
 | [],m=>m
 | v::h,m=>alGo h (alStep m v)
def isHist (h:List Int):Bool:=decide (h.length≤60) && h.all bnd
def alK (m:Mp) (h:List Int):Bool:=isMap m && isHist h && decide (m.app≤h.length)
def alM (m:Mp) (h:List Int):Mp:=if alK m h=true then alGo (h.drop m.app.toNat) m else m
def alN (m:Mp) (h:List Int):Int:=if alK m h=true then h.length - m.app else 0
theorem hist_parts {h : List Int} (hh : isHist h = true) : h.length ≤ 60 ∧ ∀ v ∈ h, bnd v = true := by
 simpa [isHist] using hh
theorem alStep_ok {m : Mp} {v : Int} (hm : isMap m = true) (hv : bnd v = true) (ha : m.app < 60) : isMap (alStep m v) = true := by
 obtain⟨h1,h2,h3,h4,h5⟩:=map_parts (crkMp_ok hm hv)
 exact map_mk h1 h2 h3 (by show 0≤m.app+1;have:0≤m.app:=h4;omega) (by show m.app+1≤60;omega)
theorem alGo_at {h : List Int} {m : Mp} {k : Nat} {v : Int} (hv : h[k]? = some v) : alGo (h.drop k) m = alGo (h.drop (k + 1)) (alStep m v) := by
 have hk : k < h.length := by
  rcases Nat.lt_or_ge k h.length with h'|h'
  ·exact h'
  ·rw [List.getElem?_eq_none h'] at hv;cases hv
 rw [List.getElem?_eq_getElem hk] at hv
 cases hv
 rw [List.drop_eq_getElem_cons hk,alGo]
theorem map_le {m : Mp} (h : isMap m = true) : m.c.vals.length ≤ 1048576 ∧ m.c.rows.length ≤ 1048576 ∧ m.c.piv.length ≤ 1048576 ∧ m.tail.length ≤ 1048576 := by
 obtain⟨h1,h2,h3,h4,h5⟩:=map_parts h
 have:=crk_lens h1
 omega
end Go.Proofs.YthlhmpknngidmaaGreat.E
