/- Walks through functions, by program out of the session's annotations. -/
import Derived.Test.YtcepgfcolmdnoaaA153
import Derived.Test.YtcepgfcolmdnoaaA152
namespace Go.Proofs.Ytcepgfcolmdnoaa.E
open Go Go.RowKit Go.Proofs
set_option linter.unusedVariables false
set_option linter.unusedSimpArgs false

def allR:Int × Int:=(-1000,1000)
theorem inR_all {v : Int} (h : -999 ≤ v ∧ v ≤ 999) : inR allR v = true := by
 have h1:isRng allR=true:=by decide
 have h2:decide (allR.1≤v)=true:=decide_eq_true (by show (-1000:Int)≤v;omega)
 have h3:decide (v<allR.2)=true:=decide_eq_true (by show v<(1000:Int);omega)
 rw [inR,h1,h2,h3]
 rfl
theorem insIx_add {c : Crk} {p : Pnd} {x : Int × Int} (hq : isPnd c (addI p x) = true) : insIx (addI p x).ins x.2 = p.ins.length := by
 have hn:=(pnd_ok hq).ni
 have h1:((addI p x).ins.map (·.2))[p.ins.length]? = some x.2:=by simp [addI]
 exact (ix_first h1).2 (nd_take hn h1)
/-- What is added and then deleted leaves no trace. -/
theorem add_del {c : Crk} {p : Pnd} {x : Int × Int} (h : addIok c p x = true) : delOk c (addI p x) x.2 = true ∧ delR c (addI p x) x.2 = p := by
 have hpq:isPnd c p=true∧isPnd c (addI p x)=true:=by simpa [addIok] using h
 have e : delN (addI p x) x.2 = p := by
  rw [delN_at (insIx_add hpq.2)]
  simp [addI]
 have hk:delOk c (addI p x) x.2=true:=by simp [delOk,e,hpq.1,hpq.2]
 exact⟨hk,by rw [delR,if_pos hk,e]⟩
theorem add_live {c : Crk} {p : Pnd} {x : Int × Int} (h : addIok c p x = true) : x.2 ∈ liveL c (addI p x) allR := by
 have hpq:isPnd c p=true∧isPnd c (addI p x)=true:=by simpa [addIok] using h
 have hx:=(pnd_ok hpq.2).it x (by simp [addI])
 exact (mem_live hpq.2 _).2 (.inr ⟨x,by simp [addI],rfl,inR_all ⟨hx.1,hx.2.1⟩⟩)
theorem del_live {c : Crk} {p : Pnd} {w : Int} (h : delOk c p w = true) : w ∈ liveL c p allR ∧ w ∉ liveL c (delR c p w) allR ∧ isPnd c (delR c p w) = true := by
 have hpq:isPnd c p=true∧isPnd c (delN p w)=true:=by simpa [delOk] using h
 have er:delR c p w=delN p w:=by rw [delR,if_pos h]
 rw [er]
 have hp:=pnd_ok hpq.1
 have hq:=pnd_ok hpq.2
 refine⟨?_,?_,hpq.2⟩
 ·rw [mem_live hpq.1]
  rcases insIx_cases p.ins w with hi|⟨k,hk,hi⟩
  ·rw [delN_no hi] at hq
   have hw:w ∈ c.rows:=hq.dr w (by simp)
   obtain⟨z,hz,e⟩:=row_mem_zip hp.crk.rl hw
   have hel:=(hp.crk.z.el z hz).1
   refine .inl ⟨z,hz,e,inR_all hel,fun hm=>?_⟩
   have hn:=hq.nd
   rw [List.nodup_append] at hn
   exact hn.2.2 w hm w (by simp) rfl
  ·have hm : w ∈ p.ins.map (·.2) := by
    by_cases hm:w ∈ p.ins.map (·.2)
    ·exact hm
    ·have := rowIx_no hm
     rw [insIx] at hi
     omega
   obtain⟨z,hz,e⟩:=List.mem_map.1 hm
   have hel:=hp.it z hz
   exact .inr ⟨z,hz,e,inR_all ⟨hel.1,hel.2.1⟩⟩
 ·rw [mem_live hpq.2]
  rcases insIx_cases p.ins w with hi|⟨k,hk,hi⟩
  ·rw [delN_no hi] at hq ⊢
   have hw:w ∈ c.rows:=hq.dr w (by simp)
   rintro (⟨z,hz,e,h1,h2⟩|⟨z,hz,e,h1⟩)
   ·exact h2 (by simp)
   ·exact hp.no z hz (e ▸ hw)
  ·rw [delN_at hi]
   have h1 : (p.ins.map (·.2))[k]? = some w := by
    have hm : w ∈ p.ins.map (·.2) := by
     by_cases hm:w ∈ p.ins.map (·.2)
     ·exact hm
     ·have := rowIx_no hm
      rw [insIx] at hi
      omega
    obtain⟨j,h2,h3⟩:=rowIx_mem hm
    rw [insIx,h2] at hi
    obtain rfl:j=k:=by omega
    exact h3
   obtain ⟨x, hx, ex⟩ : ∃ x, p.ins[k]? = some x ∧ x.2 = w := by
    rw [List.getElem?_map] at h1
    cases hx:p.ins[k]? with
    | none=>rw [hx] at h1;cases h1
    | some x=>rw [hx] at h1;exact⟨x,rfl,by simpa using h1⟩
   rintro (⟨z,hz,e,_,_⟩|⟨z,hz,e,_⟩)
   ·exact hp.no x (List.mem_of_getElem? hx) (by rw [ex,← e];exact mem_zip_row hp.crk.rl hz)
   ·obtain ⟨j, hj⟩ := List.getElem?_of_mem hz
    have hjk : ∃ i, i ≠ k ∧ p.ins[i]? = some z := by
     have hl:(p.ins.take k).length=k:=by rw [List.length_take];omega
     rcases Nat.lt_or_ge j k with h'|h'
     ·exact⟨j,by omega,by rw [List.getElem?_append_left (by omega),List.getElem?_take,if_pos h'] at hj;exact hj⟩
     ·rw [List.getElem?_append_right (by omega), List.getElem?_drop] at hj
      exact⟨_,by omega,hj⟩
    obtain⟨i,hik,hi2⟩:=hjk
    have hi3:=lt_of_at hi2
    have e1 : (p.ins.map (·.2))[i]'(by simpa using hi3) = w := by
     have:(p.ins.map (·.2))[i]? = some w:=by rw [List.getElem?_map,hi2];simp [e]
     rw [List.getElem?_eq_getElem (by simpa using hi3)] at this
     exact Option.some.inj this
    have e2 : (p.ins.map (·.2))[k]'(by simpa using hk) = w := by
     rw [List.getElem?_eq_getElem (by simpa using hk)] at h1
     exact Option.some.inj h1
    exact hik ((List.getElem_inj hp.ni).1 (e1.trans e2.symm))

end Go.Proofs.Ytcepgfcolmdnoaa.E
