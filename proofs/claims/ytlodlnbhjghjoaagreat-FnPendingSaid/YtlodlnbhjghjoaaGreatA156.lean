/- Walks and words, put together. -/
import Derived.Test.YtlodlnbhjghjoaaGreatA49
import Derived.Test.YtlodlnbhjghjoaaGreatA100
import Derived.Test.YtlodlnbhjghjoaaGreatA47
namespace Go.Proofs.YtlodlnbhjghjoaaGreat.E
open Go Go.RowKit Go.Proofs
set_option linter.unusedVariables false
set_option linter.unusedSimpArgs false

theorem mem_liveA {c : Crk} {p : Pnd} {r : Int × Int} (hl : c.rows.length = c.vals.length) (y : Int) : ∀ k, k ≤ c.vals.length → (y ∈ liveA c p r k ↔ ∃ z ∈ (zpC c).take k, z.2 = y ∧ inR r z.1 = true ∧ y ∉ p.del)
 | 0,_=>by simp [liveA]
 | k + 1, hk => by
  obtain⟨v,hv⟩:∃ v,c.vals[k]? = some v:=⟨_,List.getElem?_eq_getElem (by omega)⟩
  obtain⟨w,hw⟩:∃ w,c.rows[k]? = some w:=⟨_,List.getElem?_eq_getElem (by omega)⟩
  have hz:(zpC c)[k]? = some (v,w):=by rw [zpC,List.getElem?_zip_eq_some];exact⟨hv,hw⟩
  have ih:=mem_liveA hl y k (p:=p) (r:=r) (by omega)
  rw [liveA_at hv hw]
  split
  ·rename_i h
   simp only [Bool.and_eq_true,Bool.not_eq_true',decide_eq_false_iff_not] at h
   rw [List.mem_append,List.mem_singleton,ih]
   constructor
   ·rintro (⟨z, h1, h2⟩ | h1)
    ·exact⟨z,(mem_take_succ hz).2 (.inl h1),h2⟩
    subst h1;exact⟨(v,y),(mem_take_succ hz).2 (.inr rfl),rfl,h.1,h.2⟩
   rintro ⟨z, h1, h2, h3, h4⟩
   rcases (mem_take_succ hz).1 h1 with h5|h5
   ·exact .inl ⟨z,h5,h2,h3,h4⟩
   subst h5;exact .inr h2.symm
  rename_i h
  rw [ih]
  constructor
  ·rintro⟨z,h1,h2⟩;exact⟨z,(mem_take_succ hz).2 (.inl h1),h2⟩
  rintro ⟨z, h1, h2, h3, h4⟩
  rcases (mem_take_succ hz).1 h1 with h5|h5
  ·exact⟨z,h5,h2,h3,h4⟩
  subst h5
  exfalso
  apply h
  simp only [Bool.and_eq_true,Bool.not_eq_true',decide_eq_false_iff_not]
  subst h2
  exact⟨h3,h4⟩
theorem mem_liveB {c : Crk} {p : Pnd} {r : Int × Int} (hl : c.rows.length = c.vals.length) (y : Int) : ∀ k, k ≤ p.ins.length → (y ∈ liveB c p r k ↔ (∃ z ∈ zpC c, z.2 = y ∧ inR r z.1 = true ∧ y ∉ p.del) ∨ ∃ z ∈ p.ins.take k, z.2 = y ∧ inR r z.1 = true)
 | 0, _ => by
  have hzl:(zpC c).length=c.vals.length:=by simp [zpC,hl]
  rw [liveB,mem_liveA hl y _ (Nat.le_refl _),List.take_of_length_le (by omega)]
  simp
 | k + 1, hk => by
  obtain⟨x,hx⟩:∃ x,p.ins[k]? = some x:=⟨_,List.getElem?_eq_getElem (by omega)⟩
  have ih:=mem_liveB hl y k (p:=p) (r:=r) (by omega)
  rw [liveB_at hx]
  split
  ·rename_i h
   rw [List.mem_append,List.mem_singleton,ih]
   constructor
   ·rintro ((h1 | ⟨z, h1, h2⟩) | h1)
    ·exact .inl h1
    ·exact .inr ⟨z,(mem_take_succ hx).2 (.inl h1),h2⟩
    subst h1;exact .inr ⟨x,(mem_take_succ hx).2 (.inr rfl),rfl,h⟩
   rintro (h1 | ⟨z, h1, h2, h3⟩)
   ·exact .inl (.inl h1)
   rcases (mem_take_succ hx).1 h1 with h5 | h5
   ·exact .inl (.inr ⟨z,h5,h2,h3⟩)
   subst h5;exact .inr h2.symm
  rename_i h
  rw [ih]
  constructor
  ·rintro (h1 | ⟨z, h1, h2⟩)
   ·exact .inl h1
   exact .inr ⟨z,(mem_take_succ hx).2 (.inl h1),h2⟩
  rintro (h1 | ⟨z, h1, h2, h3⟩)
  ·exact .inl h1
  rcases (mem_take_succ hx).1 h1 with h5 | h5
  ·exact .inr ⟨z,h5,h2,h3⟩
  subst h5;exact absurd h3 h
/-- What rows are live. -/
theorem mem_live {c : Crk} {p : Pnd} {r : Int × Int} (hp : isPnd c p = true) (y : Int) : y ∈ liveL c p r ↔ (∃ z ∈ zpC c, z.2 = y ∧ inR r z.1 = true ∧ y ∉ p.del) ∨ ∃ z ∈ p.ins, z.2 = y ∧ inR r z.1 = true := by
 have hl:=(pnd_ok hp).crk.rl
 rw [liveL,if_pos hp,(sortI_perm _).mem_iff,mem_liveB hl y _ (Nat.le_refl _),List.take_length]
theorem nd_liveA {c : Crk} {p : Pnd} {r : Int × Int} (hc : CrkOk c) : ∀ k, k ≤ c.vals.length → (liveA c p r k).Nodup
 | 0,_=>List.nodup_nil
 | k + 1, hk => by
  obtain⟨v,hv⟩:∃ v,c.vals[k]? = some v:=⟨_,List.getElem?_eq_getElem (by omega)⟩
  obtain⟨w,hw⟩:∃ w,c.rows[k]? = some w:=⟨_,List.getElem?_eq_getElem (by rw [hc.rl];omega)⟩
  have ih:=nd_liveA hc k (p:=p) (r:=r) (by omega)
  rw [liveA_at hv hw]
  split
  ·refine List.nodup_append.2 ⟨ih, by simp, fun a ha b hb e => ?_⟩
   obtain rfl:b=w:=by simpa using hb
   subst e
   obtain⟨z,h1,h2,_⟩:=(mem_liveA hc.rl a k (by omega)).1 ha
   have e2:(zpC c).map (·.2)=c.rows:=List.map_snd_zip (l₁:=c.vals) (l₂:=c.rows) (by have:=hc.rl;omega)
   have hz:((zpC c).map (·.2))[k]? = some a:=by rw [e2];exact hw
   exact nd_take hc.z.nd hz (by rw [← List.map_take,← h2];exact List.mem_map_of_mem h1)
  exact ih
theorem nd_liveB {c : Crk} {p : Pnd} {r : Int × Int} (hp : PndOk c p) : ∀ k, k ≤ p.ins.length → (liveB c p r k).Nodup
 | 0,_=>nd_liveA hp.crk _ (Nat.le_refl _)
 | k + 1, hk => by
  obtain⟨x,hx⟩:∃ x,p.ins[k]? = some x:=⟨_,List.getElem?_eq_getElem (by omega)⟩
  have ih:=nd_liveB hp k (r:=r) (by omega)
  rw [liveB_at hx]
  split
  ·refine List.nodup_append.2 ⟨ih, by simp, fun a ha b hb e => ?_⟩
   obtain rfl:b=x.2:=by simpa using hb
   subst e
   rcases (mem_liveB hp.crk.rl _ k (by omega)).1 ha with ⟨z,h1,h2,_⟩|⟨z,h1,h2,_⟩
   ·exact hp.no x (List.mem_of_getElem? hx) (h2 ▸ mem_zip_row hp.crk.rl h1)
   have h3 : (p.ins.map (·.2))[k]? = some x.2 := by simp [hx]
   exact nd_take hp.ni h3 (by rw [← List.map_take,← h2];exact List.mem_map_of_mem h1)
  exact ih
/-- Two states of updates with the same live rows answer alike. -/
theorem live_eq {c c' : Crk} {p p' : Pnd} {r r' : Int × Int} (hp : isPnd c p = true) (hp' : isPnd c' p' = true) (h : ∀ y, y ∈ liveL c p r ↔ y ∈ liveL c' p' r') : liveL c p r = liveL c' p' r' := by
 simp only [liveL,if_pos hp,if_pos hp',(sortI_perm _).mem_iff] at h ⊢
 have h2:(liveB c p r p.ins.length).Perm (liveB c' p' r' p'.ins.length):=(List.perm_ext_iff_of_nodup (nd_liveB (pnd_ok hp) _ (Nat.le_refl _)) (nd_liveB (pnd_ok hp') _ (Nat.le_refl _))).2 h
 exact sortI_eq ((sortI_perm _).trans h2) (sortI_pw _)

end Go.Proofs.YtlodlnbhjghjoaaGreat.E

namespace Go.Proofs.YtlodlnbhjghjoaaGreat.E
open Go Go.RowKit Go.Proofs
set_option linter.unusedVariables false
set_option linter.unusedSimpArgs false

/-- The converse of pnd_ok. -/
theorem pnd_mk {c : Crk} {p : Pnd} (h : PndOk c p) : isPnd c p = true := by
 simp only [isPnd,pndN,Bool.and_eq_true,decide_eq_true_eq]
 refine⟨⟨⟨(crk_iff c).2 h.crk,⟨h.il,h.dl⟩,h.al⟩,allK_iff.2 fun k hk=>?_⟩,allK_iff.2 fun k hk=>?_⟩
 ·obtain ⟨x, hx⟩ : ∃ x, p.ins[k]? = some x := ⟨_, List.getElem?_eq_getElem hk⟩
  have hm:=List.mem_of_getElem? hx
  have hi:=h.it x hm
  have h3:(p.ins.map (·.2))[k]? = some x.2:=by simp [hx]
  have h4:=nd_take h.ni h3
  have h5:=rowIx_no (h.no x hm)
  rw [insP_at hx]
  simp only [isItem,isIn,Bool.and_eq_true,decide_eq_true_eq,Bool.not_eq_true',decide_eq_false_iff_not]
  exact⟨⟨⟨⟨hi.1,hi.2.1⟩,hi.2.2⟩,by omega⟩,h4⟩
 obtain ⟨w, hw⟩ : ∃ w, p.del[k]? = some w := ⟨_, List.getElem?_eq_getElem hk⟩
 obtain⟨j,h1,h2⟩:=rowIx_mem (h.dr w (List.mem_of_getElem? hw))
 rw [delP_at hw]
 simp only [Bool.and_eq_true,decide_eq_true_eq,Bool.not_eq_true',decide_eq_false_iff_not]
 exact⟨by omega,nd_take h.nd hw⟩
theorem mD_del {c : Crk} {p : Pnd} {r : Int × Int} : ∀ k, k ≤ p.del.length → (mD c p r k).2.1 = (p.del.take k).filter (fun w => !inR r (valAt c w))
 | 0,_=>by simp [mD]
 | k + 1, hk => by
  obtain⟨w,hw⟩:∃ w,p.del[k]? = some w:=⟨_,List.getElem?_eq_getElem (by omega)⟩
  have ih:=mD_del k (c:=c) (p:=p) (r:=r) (by omega)
  rw [mD,getD_of hw,List.take_add_one,hw,List.filter_append]
  split<;>rename_i h<;>simp [ih,h]
theorem mI_ins {c : Crk} {p : Pnd} {r : Int × Int} : ∀ k, k ≤ p.ins.length → (mI c p r k).2.1 = (p.ins.take k).filter (fun x => !inR r x.1)
 | 0,_=>by simp [mI]
 | k + 1, hk => by
  obtain⟨x,hx⟩:∃ x,p.ins[k]? = some x:=⟨_,List.getElem?_eq_getElem (by omega)⟩
  have ih:=mI_ins k (c:=c) (p:=p) (r:=r) (by omega)
  rw [mI,getD_of hx,List.take_add_one,hx,List.filter_append]
  split<;>rename_i h<;>simp [ih,h]

end Go.Proofs.YtlodlnbhjghjoaaGreat.E
