/- Walks and words, put together. -/
import Derived.Test.YtlodlnbhjghjoaaGreatA156
import Derived.Test.YtlodlnbhjghjoaaGreatA104
namespace Go.Proofs.YtlodlnbhjghjoaaGreat.E
open Go Go.RowKit Go.Proofs
set_option linter.unusedVariables false
set_option linter.unusedSimpArgs false

theorem mI_cnt {c : Crk} {p : Pnd} {r : Int × Int} (hp : PndOk c p) : ∀ k, k ≤ p.ins.length → (mI c p r k).1.vals.length + (mI c p r k).2.1.length ≤ c.vals.length + k
 | 0, _ => by
  have:=(mD_ok hp r p.del.length (Nat.le_refl _)).vl
  simpa [mI] using this
 | k + 1, hk => by
  have I:=mI_ok hp r k (by omega)
  have ih:=mI_cnt hp k (r:=r) (by omega)
  obtain⟨x,hx⟩:∃ x,p.ins[k]? = some x:=⟨_,List.getElem?_eq_getElem (by omega)⟩
  obtain⟨h1,h2⟩:=mII_row hp I hx
  rw [mI,getD_of hx]
  split
  ·obtain ⟨k1, k2⟩ := ripI_ok I.ok (hp.it x (List.mem_of_getElem? hx)) h1 h2
   have h3:=k2.length_eq
   have h4:(zpC (ripI (mI c p r k).1 x)).length=(ripI (mI c p r k).1 x).vals.length:=by simp [zpC,k1.rl]
   have h5:(zpC (mI c p r k).1).length=(mI c p r k).1.vals.length:=by simp [zpC,I.ok.rl]
   rw [List.length_cons] at h3
   show (ripI _ x).vals.length+(mI c p r k).2.1.length≤_
   omega
  show (mI c p r k).1.vals.length + ((mI c p r k).2.1 ++ [_]).length ≤ _
  rw [List.length_append,List.length_singleton]
  omega
theorem ins_row {c : Crk} {p : Pnd} (hp : PndOk c p) {x z : Int × Int} (hx : x ∈ p.ins) (hz : z ∈ p.ins) (h : x.2 = z.2) : x = z := by
 obtain⟨i,hi⟩:=List.getElem?_of_mem hx
 obtain⟨j,hj⟩:=List.getElem?_of_mem hz
 have hi1:=lt_of_at hi
 have hj1:=lt_of_at hj
 have e1:(p.ins.map (·.2))[i]? = some x.2:=by simp [hi]
 have e2:(p.ins.map (·.2))[j]? = some x.2:=by simp [hj,h]
 rw [List.getElem?_eq_getElem (by simpa using hi1)] at e1
 rw [List.getElem?_eq_getElem (by simpa using hj1)] at e2
 have:=(List.getElem_inj hp.ni).1 ((Option.some.inj e1).trans (Option.some.inj e2).symm)
 subst this
 exact Option.some.inj (hi.symm.trans hj)
theorem mg_ok {c : Crk} {p : Pnd} {r : Int × Int} (hk : mgK c p r = true) : PndOk (mgC c p r) (mgP c p r) := by
 have hp:=pnd_ok (mgK_parts hk).1
 have J:=mI_ok hp r p.ins.length (Nat.le_refl _)
 have hc:=mI_cnt hp (r:=r) p.ins.length (Nat.le_refl _)
 have e1:=mI_ins (c:=c) (p:=p) (r:=r) p.ins.length (Nat.le_refl _)
 have e2:=mD_del (c:=c) (p:=p) (r:=r) p.del.length (Nat.le_refl _)
 rw [List.take_length] at e1 e2
 have hm:=J.mem
 rw [List.take_length] at hm
 rw [mgC,mgP,if_pos hk,if_pos hk]
 have hal:=hp.al
 refine⟨J.ok,?_,?_,by show _+(mI c p r p.ins.length).2.1.length≤64;omega,?_,?_,?_,?_,?_⟩
 ·show (mI c p r p.ins.length).2.1.length ≤ 20
  rw [e1];exact Nat.le_trans (List.length_filter_le _ _) hp.il
 ·show (mD c p r p.del.length).2.1.length ≤ 20
  rw [e2];exact Nat.le_trans (List.length_filter_le _ _) hp.dl
 ·show ∀ x ∈ (mI c p r p.ins.length).2.1, _
  rw [e1]
  exact fun x hx=>hp.it x (List.mem_filter.1 hx).1
 ·show ∀ x ∈ (mI c p r p.ins.length).2.1, _
  rw [e1]
  intro x hx hr
  obtain⟨hx1,hx2⟩:=List.mem_filter.1 hx
  obtain⟨z,hz,e⟩:=row_mem_zip J.ok.rl hr
  rcases (hm z).1 hz with ⟨h1,_⟩|⟨h1,h2⟩
  ·exact hp.no x hx1 (e ▸ mem_zip_row hp.crk.rl h1)
  rw [ins_row hp hx1 h1 e.symm, h2] at hx2
  exact Bool.noConfusion hx2
 ·show ((mI c p r p.ins.length).2.1.map (·.2)).Nodup
  rw [e1]
  exact hp.ni.sublist (List.filter_sublist.map _)
 ·show ∀ w ∈ (mD c p r p.del.length).2.1, _
  rw [e2]
  intro w hw
  obtain⟨hw1,hw2⟩:=List.mem_filter.1 hw
  obtain⟨b,_,_,_,_,hb⟩:=row_place hp.crk.rl (hp.dr w hw1)
  have hbm:=List.mem_of_getElem? hb
  have:(valAt c w,w) ∈ zpC (mI c p r p.ins.length).1:=(hm _).2 (.inl ⟨hbm,fun h=>by rw [h.2] at hw2;exact Bool.noConfusion hw2⟩)
  exact mem_zip_row J.ok.rl this
 show (mD c p r p.del.length).2.1.Nodup
 rw [e2]
 exact hp.nd.sublist List.filter_sublist

end Go.Proofs.YtlodlnbhjghjoaaGreat.E

namespace Go.Proofs.YtlodlnbhjghjoaaGreat.E
open Go Go.RowKit Go.Proofs
set_option linter.unusedVariables false
set_option linter.unusedSimpArgs false

/-- Merging changes no live row of a range that holds the merged one's or all. -/
theorem mg_live {c : Crk} {p : Pnd} {r q : Int × Int} (hk : mgK c p r = true) : liveL (mgC c p r) (mgP c p r) q = liveL c p q := by
 have hpk:=(mgK_parts hk).1
 have hp:=pnd_ok hpk
 have hq:=mg_ok hk
 refine live_eq (pnd_mk hq) hpk fun y=>?_
 rw [mem_live (pnd_mk hq),mem_live hpk]
 have J:=mI_ok hp r p.ins.length (Nat.le_refl _)
 have e1:=mI_ins (c:=c) (p:=p) (r:=r) p.ins.length (Nat.le_refl _)
 have e2:=mD_del (c:=c) (p:=p) (r:=r) p.del.length (Nat.le_refl _)
 rw [List.take_length] at e1 e2
 have hm:=J.mem
 rw [List.take_length] at hm
 have eC:mgC c p r=(mI c p r p.ins.length).1:=by rw [mgC,if_pos hk]
 have eI:(mgP c p r).ins=p.ins.filter (fun x=>!inR r x.1):=by rw [mgP,if_pos hk];exact e1
 have eD:(mgP c p r).del=p.del.filter (fun w=>!inR r (valAt c w)):=by rw [mgP,if_pos hk];exact e2
 have hva : ∀ z ∈ zpC c, valAt c z.2 = z.1 := fun z hz => by
  obtain⟨b,_,_,_,_,hb⟩:=row_place hp.crk.rl (mem_zip_row hp.crk.rl hz)
  exact (congrArg Prod.fst (zip_nd hp.crk hz (List.mem_of_getElem? hb) rfl)).symm
 rw [eC,eI,eD]
 constructor
 ·rintro (⟨z, hz, e, h1, h2⟩ | ⟨z, hz, e, h1⟩)
  ·rcases (hm z).1 hz with ⟨g1, g2⟩ | ⟨g1, g2⟩
   ·refine .inl ⟨z, g1, e, h1, fun hd => ?_⟩
    by_cases hin:inR r z.1=true
    ·exact g2 ⟨e ▸ hd,hin⟩
    refine h2 (List.mem_filter.2 ⟨hd, ?_⟩)
    rw [← e,hva z g1]
    simpa using hin
   exact .inr ⟨z,g1,e,h1⟩
  exact .inr ⟨z,(List.mem_filter.1 hz).1,e,h1⟩
 rintro (⟨z, hz, e, h1, h2⟩ | ⟨z, hz, e, h1⟩)
 ·exact .inl ⟨z,(hm z).2 (.inl ⟨hz,fun h=>h2 (e ▸ h.1)⟩),e,h1,fun h=>h2 (List.mem_filter.1 h).1⟩
 by_cases hin : inR r z.1 = true
 ·refine .inl ⟨z, (hm z).2 (.inr ⟨hz, hin⟩), e, h1, fun h => ?_⟩
  exact hp.no z hz (e ▸ hp.dr _ (List.mem_filter.1 h).1)
 exact .inr ⟨z,List.mem_filter.2 ⟨hz,by simpa using hin⟩,e,h1⟩

end Go.Proofs.YtlodlnbhjghjoaaGreat.E

namespace Go.Proofs.YtlodlnbhjghjoaaGreat.E
open Go Go.RowKit Go.Proofs
set_option linter.unusedVariables false
set_option linter.unusedSimpArgs false

theorem perm_rows {c d : Crk} (hc : CrkOk c) (hd : CrkOk d) (h : (zpC d).Perm (zpC c)) (w : Int) : w ∈ d.rows ↔ w ∈ c.rows := by
 constructor
 ·intro hw
  obtain⟨z,hz,e⟩:=row_mem_zip hd.rl hw
  exact e ▸ mem_zip_row hc.rl (h.mem_iff.1 hz)
 intro hw
 obtain⟨z,hz,e⟩:=row_mem_zip hc.rl hw
 exact e ▸ mem_zip_row hd.rl (h.mem_iff.2 hz)
theorem pnd_perm {c d : Crk} {p : Pnd} (hd : CrkOk d) (h : (zpC d).Perm (zpC c)) (hp : PndOk c p) : PndOk d p := by
 have hr:=perm_rows hp.crk hd h
 have h1:=h.length_eq
 have h2:(zpC d).length=d.vals.length:=by simp [zpC,hd.rl]
 have h3:(zpC c).length=c.vals.length:=by simp [zpC,hp.crk.rl]
 exact⟨hd,hp.il,hp.dl,by have:=hp.al;omega,hp.it,fun x hx hm=>hp.no x hx ((hr _).1 hm),hp.ni,fun w hw=>(hr _).2 (hp.dr w hw),hp.nd⟩
theorem live_perm {c d : Crk} {p : Pnd} {q : Int × Int} (hd : CrkOk d) (h : (zpC d).Perm (zpC c)) (hp : PndOk c p) : liveL d p q = liveL c p q := by
 have hk:=pnd_mk hp
 have hk2:=pnd_mk (pnd_perm hd h hp)
 refine live_eq hk2 hk fun y=>?_
 rw [mem_live hk2,mem_live hk]
 simp only [h.mem_iff]

end Go.Proofs.YtlodlnbhjghjoaaGreat.E
