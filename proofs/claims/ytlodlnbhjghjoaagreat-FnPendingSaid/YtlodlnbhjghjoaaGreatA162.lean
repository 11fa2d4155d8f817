/- Walks and words, put together. -/
import Derived.Test.YtlodlnbhjghjoaaGreatA159
import Derived.Test.YtlodlnbhjghjoaaGreatA131
import Derived.Test.YtlodlnbhjghjoaaGreatA107
namespace Go.Proofs.YtlodlnbhjghjoaaGreat.E
open Go Go.RowKit Go.Proofs
set_option linter.unusedVariables false
set_option linter.unusedSimpArgs false

theorem sf_ok {c : Crk} {p : Pnd} {r : Int × Int} (hk : mgK c p r = true) : isCrk (sfC c p r) = true ∧ sfL c p r = riL (mgC c p r) r ∧ (zpC (sfC c p r)).Perm (zpC (mgC c p r)) := by
 have hr:=(mgK_parts hk).2
 have hq:=mg_ok hk
 have hX:isCrk (mgC c p r)=true:=(crk_iff _).2 hq.crk
 have eC:sfC c p r=selC (mgC c p r) r:=by rw [sfC,if_pos hk]
 have eL:sfL c p r=rowsB (selC (mgC c p r) r) (selLo (mgC c p r) r) (selHi (mgC c p r) r):=by rw [sfL,if_pos hk]
 rw [eC,eL]
 generalize mgC c p r=X at *
 have hsk:selK X r=true:=by simp [selK,hX,hr]
 have hbd:=rng_bnd hr
 have hin:=sel_in hsk
 have h1:=(crackC_ok hX hbd.1).1
 have e:selC X r=(crackC (crackC X r.1).1 r.2).1:=by rw [selC,if_pos hsk,sel2]
 have e1:selLo X r=fpAt (selC X r).piv r.1:=by rw [e,selLo,if_pos hsk,sel2]
 have e2:selHi X r=fpAt (selC X r).piv r.2:=by rw [e,selHi,if_pos hsk,sel2]
 have p1:isPv (selC X r).piv r.1=true:=by rw [e];exact crackC_keep crackC_pv
 have p2:isPv (selC X r).piv r.2=true:=by rw [e];exact crackC_pv
 have hpm:(zpC (selC X r)).Perm (zpC X):=by rw [e];exact (crack_perm h1 hbd.2).trans (crack_perm hX hbd.1)
 have hl:=crk_lens hin.1
 have hcl:=crk_lens hX
 refine⟨hin.1,?_,hpm⟩
 rw [← riL_of (r:=r) hl.2.1 hcl.2.1 hpm,riL_mid hin.1 hr p1 p2 (by rw [← e1,← e2];exact hin.2.2.1),e1,e2]

end Go.Proofs.YtlodlnbhjghjoaaGreat.E

namespace Go.Proofs.YtlodlnbhjghjoaaGreat.E
open Go Go.RowKit Go.Proofs
set_option linter.unusedVariables false
set_option linter.unusedSimpArgs false

theorem mg_out {c : Crk} {p : Pnd} {r : Int × Int} (hk : mgK c p r = true) : ∀ x ∈ (mgP c p r).ins, inR r x.1 = false := by
 have e1:=mI_ins (c:=c) (p:=p) (r:=r) p.ins.length (Nat.le_refl _)
 rw [List.take_length] at e1
 have eI:(mgP c p r).ins=p.ins.filter (fun x=>!inR r x.1):=by rw [mgP,if_pos hk];exact e1
 rw [eI]
 intro x hx
 simpa using (List.mem_filter.1 hx).2
/-- Behind the merging the range's rows are its live rows. -/
theorem ri_live {c : Crk} {p : Pnd} {r : Int × Int} (hk : mgK c p r = true) : riL (mgC c p r) r = liveL c p r := by
 rw [← mg_live (q:=r) hk]
 have hp:=pnd_ok (mgK_parts hk).1
 have hq:=mg_ok hk
 have hout:=mg_out hk
 have J:=mI_ok hp r p.ins.length (Nat.le_refl _)
 have e2:=mD_del (c:=c) (p:=p) (r:=r) p.del.length (Nat.le_refl _)
 rw [List.take_length] at e2
 have hm:=J.mem
 rw [List.take_length] at hm
 have eC:mgC c p r=(mI c p r p.ins.length).1:=by rw [mgC,if_pos hk]
 have eD:(mgP c p r).del=p.del.filter (fun w=>!inR r (valAt c w)):=by rw [mgP,if_pos hk];exact e2
 have hl:=hq.crk.rl
 have hzl:(zpC (mgC c p r)).length=(mgC c p r).vals.length:=by simp [zpC,hl]
 rw [riL,liveL,if_pos (pnd_mk hq)]
 refine sortI_of ((List.perm_ext_iff_of_nodup ?_ (nd_liveB hq _ (Nat.le_refl _))).2 fun y=>?_)
 ·rw [riN_zip hl r _ (Nat.le_refl _), List.take_of_length_le (by omega)]
  exact hq.crk.z.nd.sublist (List.filter_sublist.map _)
 rw [mem_liveB hl y _ (Nat.le_refl _), List.take_length, riN_zip hl r _ (Nat.le_refl _), List.take_of_length_le (by omega), List.mem_map]
 constructor
 ·rintro ⟨z, hz, e⟩
  obtain⟨g1,g2⟩:=List.mem_filter.1 hz
  refine .inl ⟨z,g1,e,g2,fun hd=>?_⟩
  rw [eD] at hd
  obtain⟨d1,d2⟩:=List.mem_filter.1 hd
  rw [eC] at g1
  rcases (hm z).1 g1 with ⟨f1,f2⟩|⟨f1,f2⟩
  ·exact f2 ⟨e ▸ d1,g2⟩
  exact hp.no z f1 (e ▸ hp.dr _ d1)
 rintro (⟨z, hz, e, g, _⟩ | ⟨z, hz, e, g⟩)
 ·exact⟨z,List.mem_filter.2 ⟨hz,g⟩,e⟩
 rw [hout z hz] at g;exact Bool.noConfusion g

end Go.Proofs.YtlodlnbhjghjoaaGreat.E
