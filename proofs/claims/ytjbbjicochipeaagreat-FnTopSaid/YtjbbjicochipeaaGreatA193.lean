/- Walks through functions, by program out of the session's annotations. -/
import Derived.Test.YtjbbjicochipeaaGreatA192
import Derived.Test.YtjbbjicochipeaaGreatA185
namespace Go.Proofs.YtjbbjicochipeaaGreat.E
open Go Go.RowKit Go.Proofs
set_option linter.unusedVariables false
set_option linter.unusedSimpArgs false

theorem led_rq {xs : List Int} {s : Sett} {rs : List (Int × Int)} (hx : areVals xs = true) (hs : isSet s = true) (hr : ∀ r ∈ rs, isRng r = true) : ∀ (k : Nat), k ≤ rs.length → ∀ {c t l c' t' ls cs}, ledN xs s rs k = (c, t, l) → rqN xs s rs k = (c', t', ls, cs) → c = c' ∧ t = t' ∧ totW l = sumI cs ∧ repl (newCrk xs) l = some c
 | 0, _, c, t, l, c', t', ls, cs, h, h' => by
  have h1:(newCrk xs,s,([]:List Qn))=(c,t,l):=h
  have h2:(newCrk xs,s,([]:List (List Int)),([]:List Int))=(c',t',ls,cs):=h'
  cases h1
  cases h2
  exact⟨rfl,rfl,rfl,rfl⟩
 | k + 1, hk, c, t, l, c', t', ls, cs, h, h' => by
  obtain⟨r,hrk⟩:=at_lt (l:=rs) (k:=k) (by omega)
  generalize hN:rqN xs s rs k=P at *
  obtain⟨c1,t1,ls1,cs1⟩:=P
  generalize hL:ledN xs s rs k=L at *
  obtain⟨c2,t2,l2⟩:=L
  obtain⟨e1,e2,e3,e4⟩:=led_rq hx hs hr k (by omega) hL hN
  subst e1
  subst e2
  have hok:=rq_ok hx hs hr k (by omega) hN
  have hrr:=hr r (List.mem_of_getElem? hrk)
  obtain⟨b1,b2⟩:=rng_bnd hrr
  have hw:=sw_ok hok.oc hok.os hrr
  have n1:=rq_next hrk hN
  have n2:=ld_next hrk hL
  rw [h'] at n1
  rw [h] at n2
  obtain⟨w1,w2,w3⟩:=with_ind (q:=(k:Nat)) (p:=0) (v:=r.1) (c:=c2) (s:=t2) (l:=l2) (m:=[])
  have w1:(lw1 (k:Nat) c2 t2 r l2).1=(sw1 c2 t2 r).1:=w1
  have w2:(lw1 (k:Nat) c2 t2 r l2).2.1=(sw1 c2 t2 r).2.1:=w2
  have w3:totW (lw1 (k:Nat) c2 t2 r l2).2.2+totW []=totW (sw1 c2 t2 r).2.2+totW l2:=w3
  have w4:repl (newCrk xs) (lw1 (k:Nat) c2 t2 r l2).2.2=some (lw1 (k:Nat) c2 t2 r l2).1:=repl_with b1 hok.oc hok.os e4
  obtain⟨v1,v2,v3⟩:=with_ind (q:=(k:Nat)) (p:=0) (v:=r.2) (c:=(lw1 (k:Nat) c2 t2 r l2).1) (s:=(lw1 (k:Nat) c2 t2 r l2).2.1) (l:=(lw1 (k:Nat) c2 t2 r l2).2.2) (m:=[])
  have v4:repl (newCrk xs) (lw2 (k:Nat) c2 t2 r l2).2.2=some (lw2 (k:Nat) c2 t2 r l2).1:=repl_with b2 (by rw [w1];exact hw.c1) (by rw [w2];exact hw.s1) w4
  have v1:(lw2 (k:Nat) c2 t2 r l2).1=(withW 0 (lw1 (k:Nat) c2 t2 r l2).1 (lw1 (k:Nat) c2 t2 r l2).2.1 r.2 []).1:=v1
  have v2:(lw2 (k:Nat) c2 t2 r l2).2.1=(withW 0 (lw1 (k:Nat) c2 t2 r l2).1 (lw1 (k:Nat) c2 t2 r l2).2.1 r.2 []).2.1:=v2
  have v3:totW (lw2 (k:Nat) c2 t2 r l2).2.2+totW []=totW (withW 0 (lw1 (k:Nat) c2 t2 r l2).1 (lw1 (k:Nat) c2 t2 r l2).2.1 r.2 []).2.2+totW (lw1 (k:Nat) c2 t2 r l2).2.2:=v3
  rw [w1,w2] at v1 v2 v3
  have v1:(lw2 (k:Nat) c2 t2 r l2).1=(sw2 c2 t2 r).1:=v1
  have v2:(lw2 (k:Nat) c2 t2 r l2).2.1=(sw2 c2 t2 r).2.1:=v2
  have v3:totW (lw2 (k:Nat) c2 t2 r l2).2.2+totW []=totW (sw2 c2 t2 r).2.2+totW (lw1 (k:Nat) c2 t2 r l2).2.2:=v3
  generalize lw2 (k:Nat) c2 t2 r l2=Z at *
  cases n1
  cases n2
  refine⟨v1,v2,?_,v4⟩
  rw [sumI_app]
  simp only [sumI,totW] at *
  omega
structure TopOk (xs : List Int) (s : Sett) (rs : List (Int × Int)) : Prop where
 oc:isCrk (rqC xs s rs)=true
 pr:prL (rqC xs s rs)=prL (newCrk xs)
 rp:repC xs (ledL xs s rs)=rqC xs s rs∧repK xs (ledL xs s rs)=true
 tt:totW (ledL xs s rs)=sumI (rqK xs s rs)
 ll:(rqL xs s rs).length=rs.length
 lk:(rqK xs s rs).length=rs.length
 an:∀ i,i<rs.length→(rqL xs s rs)[i]? = some (scN xs (rs.getD i (0,0)) xs.length)
theorem top_ok {xs : List Int} {s : Sett} {rs : List (Int × Int)} (hq : areQ xs s rs = true) : TopOk xs s rs := by
 obtain⟨h1,h2,h3,h4⟩:=areQ_parts hq
 have eC:rqC xs s rs=(rqN xs s rs rs.length).1:=by rw [rqC,if_pos hq]
 have eL:rqL xs s rs=(rqN xs s rs rs.length).2.2.1:=by rw [rqL,if_pos hq]
 have eK:rqK xs s rs=(rqN xs s rs rs.length).2.2.2:=by rw [rqK,if_pos hq]
 have eG:ledL xs s rs=(ledN xs s rs rs.length).2.2:=by rw [ledL,if_pos hq]
 generalize hN:rqN xs s rs rs.length=P at *
 obtain⟨c1,t1,ls1,cs1⟩:=P
 generalize hL:ledN xs s rs rs.length=L at *
 obtain⟨c2,t2,l2⟩:=L
 obtain⟨e1,e2,e3,e4⟩:=led_rq h1 h2 h4 rs.length (Nat.le_refl _) hL hN
 have hok:=rq_ok h1 h2 h4 rs.length (Nat.le_refl _) hN
 have hb:=rq_bd h1 h2 h4 rs.length (Nat.le_refl _) hN
 have hn:=crk_lens (newCrk_ok h1)
 have hr:repO xs l2=some c1:=by rw [repO,if_pos h1,e4,e1]
 exact⟨by rw [eC];exact hok.oc,by rw [eC];exact prL_of (crk_lens hok.oc).2.1 hn.2.1 hb.zp,by rw [eC,eG];exact rep_some hr,by rw [eG,eK];exact e3,by rw [eL];exact hok.ll,by rw [eK];exact hok.lc,fun i hi=>by rw [eL];exact (hb.an i hi).trans (by rw [riL_new h1])⟩

end Go.Proofs.YtjbbjicochipeaaGreat.E
