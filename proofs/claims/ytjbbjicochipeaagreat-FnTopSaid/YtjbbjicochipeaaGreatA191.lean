/- Walks through functions, by program out of the session's annotations. -/
import Derived.Test.YtjbbjicochipeaaGreatA187
import Derived.Test.YtjbbjicochipeaaGreatA122
import Derived.Test.YtjbbjicochipeaaGreatA51
namespace Go.Proofs.YtjbbjicochipeaaGreat.E
open Go Go.RowKit Go.Proofs
set_option linter.unusedVariables false
set_option linter.unusedSimpArgs false

theorem fp_mem {c : Crk} {u : Int} (h : isPv c.piv u = true) : (u, fpAt c.piv u) ∈ c.piv := by
 unfold isPv at h
 unfold fpAt
 cases hf:fpv c.piv u with
 | none=>rw [hf] at h;cases h
 | some p =>
  have hm:=List.mem_of_find?_eq_some hf
  have hp:p.1=u:=by simpa using List.find?_some hf
  have e:(u,p.2)=p:=by rw [← hp]
  dsimp only
  rw [e];exact hm
/-- What is wanted stands together. -/
theorem filter_mid {α : Type} (q : α → Bool) : ∀ (l : List α) (a b : Nat), a ≤ b → b ≤ l.length → (∀ i x, l[i]? = some x → (q x = true ↔ a ≤ i ∧ i < b)) → l.filter q = (l.drop a).take (b - a)
 | [], a, b, _, hb, _ => by
  obtain rfl:b=0:=by simpa using hb
  simp
 | x :: l, 0, 0, _, _, h => by
  have h0:¬ q x=true:=fun e=>by have:=(h 0 x rfl).1 e;omega
  rw [List.filter_cons_of_neg h0, filter_mid q l 0 0 (Nat.le_refl _) (Nat.zero_le _) (fun i y hy => by
   have:=h (i+1) y (by simpa using hy)
   rw [this];omega)]
  simp
 | x :: l, 0, b + 1, _, hb, h => by
  have h0:q x=true:=(h 0 x rfl).2 (by omega)
  rw [List.filter_cons_of_pos h0, filter_mid q l 0 b (Nat.zero_le _) (by simpa using hb) (fun i y hy => by
   have:=h (i+1) y (by simpa using hy)
   rw [this];omega)]
  simp
 | x::l,a+1,0,hab,_,_=>by omega
 | x :: l, a + 1, b + 1, hab, hb, h => by
  have h0:¬ q x=true:=fun e=>by have:=(h 0 x rfl).1 e;omega
  rw [List.filter_cons_of_neg h0, filter_mid q l a b (by omega) (by simpa using hb) (fun i y hy => by
   have:=h (i+1) y (by simpa using hy)
   rw [this];omega)]
  rw [List.drop_succ_cons,show b+1 - (a+1)=b - a by omega]
/-- The rows of a column in a range, as they stand. -/
def riN (c : Crk) (r : Int × Int) : Nat → List Int
 | 0=>[]
 | k+1=>if inR r (c.vals.getD k 0)=true then riN c r k++[c.rows.getD k 0] else riN c r k
theorem riN_at {c:Crk} {r:Int × Int} {k:Nat} {x y:Int} (hx:c.vals[k]? = some x) (hy:c.rows[k]? = some y):riN c r (k+1)=if inR r x=true then riN c r k++[y] else riN c r k:=by rw [riN,getD_of hx,getD_of hy]
theorem riN_zip {c : Crk} (hl : c.rows.length = c.vals.length) (r : Int × Int) : ∀ k, k ≤ c.vals.length → riN c r k = (((zpC c).take k).filter fun z => inR r z.1).map (·.2)
 | 0,_=>rfl
 | k + 1, hk => by
  obtain⟨x,hx⟩:=at_lt (l:=c.vals) (k:=k) (by omega)
  obtain⟨y,hy⟩:=at_lt (l:=c.rows) (k:=k) (by omega)
  have hz:(zpC c)[k]? = some (x,y):=by rw [zpC,List.getElem?_zip_eq_some];exact⟨hx,hy⟩
  rw [riN_at hx hy,riN_zip hl r k (by omega),List.take_add_one,hz,List.filter_append,List.map_append]
  split
  ·rename_i h
   simp [h]
  rename_i h
  simp [h]
def riL (c:Crk) (r:Int × Int):List Int:=sortI (riN c r c.vals.length)
theorem riL_of {c d : Crk} {r : Int × Int} (hc : c.rows.length = c.vals.length) (hd : d.rows.length = d.vals.length) (h : (zpC c).Perm (zpC d)) : riL c r = riL d r := by
 have h1:(zpC c).length=c.vals.length:=by simp [zpC,hc]
 have h2:(zpC d).length=d.vals.length:=by simp [zpC,hd]
 rw [riL,riL,riN_zip hc r _ (Nat.le_refl _),riN_zip hd r _ (Nat.le_refl _),List.take_of_length_le (by omega),List.take_of_length_le (by omega)]
 exact sortI_of ((h.filter _).map _)
/-- A column that is divided at both ends of a range has the range's rows between. -/
theorem riL_mid {c : Crk} {r : Int × Int} (hc : isCrk c = true) (hr : isRng r = true) (h1 : isPv c.piv r.1 = true) (h2 : isPv c.piv r.2 = true) (hle : fpAt c.piv r.1 ≤ fpAt c.piv r.2) : riL c r = rowsB c (fpAt c.piv r.1) (fpAt c.piv r.2) := by
 have ho:=(crk_iff c).1 hc
 have hl:=crk_lens hc
 obtain⟨_,_,a1,a2,a3⟩:=ho.pv _ (fp_mem h1)
 obtain⟨_,_,b1,b2,b3⟩:=ho.pv _ (fp_mem h2)
 dsimp only at a1 a2 a3 b1 b2 b3
 have hz:(zpC c).length=c.vals.length:=by simp [zpC,hl.2.1]
 rw [riL,rowsB,if_pos ⟨hc,a1,hle,by omega⟩,riN_zip hl.2.1 r _ (Nat.le_refl _),List.take_of_length_le (by omega)]
 rw [filter_mid (fun z : Int × Int => inR r z.1) (zpC c) (fpAt c.piv r.1).toNat (fpAt c.piv r.2).toNat (by omega) (by omega) (fun i z hzz => by
  have hi:=lt_of_at hzz
  simp only [zpC] at hzz
  rw [List.getElem?_zip_eq_some] at hzz
  have e1:=a3 i (by omega)
  have e2:=b3 i (by omega)
  rw [getD_of hzz.1] at e1 e2
  simp only [inR,hr,Bool.true_and,Bool.and_eq_true,decide_eq_true_eq]
  omega)]
 rw [cutV,List.map_take,List.map_drop]
 have e:(zpC c).map (·.2)=c.rows:=List.map_snd_zip (l₁:=c.vals) (l₂:=c.rows) (by omega)
 rw [e]
theorem goW_keep {q v u : Int} : ∀ (f : Nat) (c : Crk) (s : Sett) (l : List Qn), isPv c.piv u = true → isPv (goW q v f c s l).1.piv u = true
 | 0,_,_,_,h=>h
 | f + 1, c, s, l, h => by
  rw [goW]
  split
  ·exact h
  refine goW_keep f _ _ _ ?_
  unfold stepW
  exact crackC_keep (crackC_keep h)
theorem goW_perm {q v : Int} : ∀ (f : Nat) (c : Crk) (s : Sett) (l : List Qn), isCrk c = true → isSet s = true → (zpC (goW q v f c s l).1).Perm (zpC c)
 | 0,c,s,l,_,_=>List.Perm.refl _
 | f + 1, c, s, l, hc, hs => by
  rw [goW]
  split
  ·exact List.Perm.refl _
  rename_i h
  obtain⟨_,b1,b2,k1,k2,_⟩:=stepW_ok hc hs (by simpa using h)
  exact (goW_perm f _ _ _ k2 (setN_ok hs)).trans ((crack_perm k1 b2).trans (crack_perm hc b1))
theorem goW_set {q v : Int} : ∀ (f : Nat) (c : Crk) (s : Sett) (l : List Qn), (goW q v f c s l).2.1.pol = s.pol ∧ (goW q v f c s l).2.1.thr = s.thr
 | 0,c,s,l=>⟨rfl,rfl⟩
 | f + 1, c, s, l => by
  rw [goW]
  split
  ·exact⟨rfl,rfl⟩
  have h := goW_set (q := q) (v := v) f (stepW c s v) (setN s) (l ++ chgs q c (chW c s v) ++ chgs q (crackC c (chW c s v)).1 (chW c s v + 1))
  have e:(setN s).pol=s.pol∧(setN s).thr=s.thr:=by unfold setN;split<;>exact⟨rfl,rfl⟩
  exact⟨h.1.trans e.1,h.2.trans e.2⟩
/-- Of so many, those at places from i on are not wanted. -/
theorem cnt_le {α : Type} (p : α → Bool) {l : List α} {i : Nat} (h : ∀ j (hj : j < l.length), i ≤ j → p l[j] = false) : l.countP p ≤ i := by
 have e:=List.take_append_drop i l
 rw [← e,List.countP_append]
 have h1:(l.take i).countP p≤i:=Nat.le_trans List.countP_le_length (by rw [List.length_take];omega)
 have h2 : (l.drop i).countP p = 0 := by
  rw [List.countP_eq_zero]
  intro x hx
  obtain⟨j,hj,rfl⟩:=List.mem_iff_getElem.1 hx
  rw [List.getElem_drop,h _ _ (by omega)]
  simp
 omega
theorem cnt_all {α:Type} (p:α→Bool) {l:List α} (h:∀ x ∈ l,p x=true):l.countP p=l.length:=List.countP_eq_length.2 h
/-- A median's two sides. -/
theorem med_sides {l : List Int} (h : 0 < l.length) : l.countP (fun x => decide (x < medI l)) ≤ (l.length - 1) / 2 ∧ l.length - l.countP (fun x => decide (x < medI l + 1)) ≤ l.length - 1 - (l.length - 1) / 2 := by
 have hp:=sortI_perm l
 have hs:=sortI_pw l
 have hl:=sortI_len l
 have hi:(l.length - 1) / 2<(sortI l).length:=by omega
 have em:medI l=(sortI l)[(l.length - 1) / 2]:=by rw [medI,getD_at hi]
 have mono : ∀ (i j : Nat) (hi : i < (sortI l).length) (hj : j < (sortI l).length), i ≤ j → (sortI l)[i] ≤ (sortI l)[j] := by
  intro i j hi hj hij
  rcases Nat.eq_or_lt_of_le hij with e|e
  ·subst e;exact Int.le_refl _
  exact List.pairwise_iff_getElem.1 hs i j hi hj e
 constructor
 ·rw [← hp.countP_eq]
  refine cnt_le _ fun j hj hij=>?_
  have:=mono _ _ hi hj hij
  rw [em]
  exact decide_eq_false (by omega)
 have h1 : (sortI l).countP (fun x => decide (x < medI l + 1)) = l.countP (fun x => decide (x < medI l + 1)) := hp.countP_eq _
 rw [← h1]
 have e:=List.take_append_drop ((l.length - 1) / 2+1) (sortI l)
 have h2 : ((sortI l).take ((l.length - 1) / 2 + 1)).countP (fun x => decide (x < medI l + 1)) = (l.length - 1) / 2 + 1 := by
  rw [cnt_all,List.length_take]
  ·omega
  intro x hx
  obtain⟨j,hj,rfl⟩:=List.mem_iff_getElem.1 hx
  rw [List.length_take] at hj
  rw [List.getElem_take]
  have:=mono j _ (by omega) hi (by omega)
  rw [em]
  exact decide_eq_true (by omega)
 have h3:(sortI l).countP (fun x=>decide (x<medI l+1))=((sortI l).take ((l.length - 1) / 2+1)).countP (fun x=>decide (x<medI l+1))+((sortI l).drop ((l.length - 1) / 2+1)).countP (fun x=>decide (x<medI l+1)):=by rw [← List.countP_append,e]
 omega
theorem vals_perm {c d : Crk} (hc : CrkOk c) (hd : CrkOk d) (h : (zpC d).Perm (zpC c)) : d.vals.Perm c.vals := by
 have m2:(zpC d).map (·.1)=d.vals:=List.map_fst_zip (l₁:=d.vals) (l₂:=d.rows) (by have:=hd.rl;omega)
 have m3:(zpC c).map (·.1)=c.vals:=List.map_fst_zip (l₁:=c.vals) (l₂:=c.rows) (by have:=hc.rl;omega)
 have:=h.map (·.1)
 rwa [m2,m3] at this
theorem crackC_sub {c : Crk} {v : Int} {p : Int × Int} (hp : p ∈ c.piv) : p ∈ (crackC c v).1.piv := by
 cases h:isPv c.piv v
 ·have e : (crackC c v).1.piv = insPv c.piv (v, (partC c v).2) := by rw [crackC, if_neg (by simp [h])]; rfl
  rw [e]
  exact insPv_in (.inr hp)
 rw [crackC,if_pos h];exact hp

end Go.Proofs.YtjbbjicochipeaaGreat.E
