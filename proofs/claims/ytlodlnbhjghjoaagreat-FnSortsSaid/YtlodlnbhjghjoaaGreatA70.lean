/- Walks through functions, by program out of the session's annotations. -/
import Derived.Test.YtlodlnbhjghjoaaGreatA47
import Derived.Test.YtlodlnbhjghjoaaGreatRT
import Derived.Test.YtlodlnbhjghjoaaGreatF4
namespace Go.Proofs.YtlodlnbhjghjoaaGreat.E
open Go Go.RowKit Go.Proofs
set_option linter.unusedVariables false
set_option linter.unusedSimpArgs false

open Go.Sort
def ltP (x y:Int × Int):Prop:=x.1<y.1∨(x.1=y.1∧x.2<y.2)
instance (x y:Int × Int):Decidable (ltP x y):=by unfold ltP;infer_instance
def swpP (l:List (Int × Int)) (i e:Nat):List (Int × Int):=(l.set i (l.getD e (0,0))).set e (l.getD i (0,0))
/-- The pair at a + d sinks to its place, not below a. -/
def sinkE (a : Nat) (l : List (Int × Int)) : Nat → List (Int × Int)
 | 0=>l
 | d+1=>if ltP (l.getD (a+d+1) (0,0)) (l.getD (a+d) (0,0)) then sinkE a (swpP l (a+d) (a+d+1)) d else l
def srtE (a : Nat) (l : List (Int × Int)) : Nat → List (Int × Int)
 | 0=>l
 | i+1=>sinkE a (srtE a l i) i
theorem swpP_len (l:List (Int × Int)) (i e:Nat):(swpP l i e).length=l.length:=by simp [swpP]
theorem sinkE_len (a : Nat) : ∀ (d : Nat) (l : List (Int × Int)), (sinkE a l d).length = l.length
 | 0,l=>rfl
 | d+1,l=>by unfold sinkE;split;rw [sinkE_len a d,swpP_len];rfl
theorem srtE_len (a : Nat) (l : List (Int × Int)) : ∀ i, (srtE a l i).length = l.length
 | 0=>rfl
 | i+1=>by rw [srtE,sinkE_len,srtE_len a l i]
theorem swpP_split (a b : List (Int × Int)) (x y : Int × Int) : swpP (a ++ x :: y :: b) a.length (a.length + 1) = a ++ y :: x :: b := by
 unfold swpP
 have e1:(a++x::y::b).getD (a.length+1) (0,0)=y:=by simp [List.getD]
 have e2:(a++x::y::b).getD a.length (0,0)=x:=by simp [List.getD]
 rw [e1,e2,List.set_append_right _ _ (Nat.le_refl _),Nat.sub_self,List.set_cons_zero,List.set_append_right _ _ (Nat.le_succ _),show a.length.succ - a.length=1 by omega]
 rfl
theorem sinkE_spec (pre : List (Int × Int)) : ∀ (s : List (Int × Int)) (x : Int × Int) (b : List (Int × Int)), List.Pairwise leP s → ∃ c, sinkE pre.length (pre ++ (s ++ x :: b)) s.length = pre ++ (c ++ b) ∧ c.Perm (s ++ [x]) ∧ List.Pairwise leP c := by
 intro s
 induction h:s.length generalizing s with
 | zero =>
  intro x b _
  obtain rfl:s=[]:=List.length_eq_zero_iff.1 h
  exact⟨[x],rfl,List.Perm.refl _,by simp⟩
 | succ n ih =>
  intro x b hs
  obtain⟨s',y,rfl⟩:∃ s' y,s=s'++[y]:=⟨s.dropLast,s.getLast (by intro e;simp [e] at h),(List.dropLast_concat_getLast _).symm⟩
  have hn:s'.length=n:=by simpa using h
  have hs':=List.pairwise_append.1 hs
  have e0:pre++(s'++[y]++x::b)=(pre++s')++y::x::b:=by simp
  have hpl:(pre++s').length=pre.length+n:=by simp [hn]
  have e1:((pre++s')++y::x::b).getD (pre.length+n) (0,0)=y:=by rw [← hpl];simp [List.getD]
  have e2 : ((pre ++ s') ++ y :: x :: b).getD (pre.length + n + 1) (0, 0) = x := by
   have gen:∀ A:List (Int × Int),(A++y::x::b).getD (A.length+1) (0,0)=x:=fun A=>by simp [List.getD]
   rw [← hpl];exact gen _
  rw [e0]
  unfold sinkE
  rw [e1,e2]
  by_cases hlt:ltP x y
  ·rw [if_pos hlt]
   have e3:=swpP_split (pre++s') b y x
   rw [hpl] at e3
   rw [e3]
   obtain⟨c,k1,k2,k3⟩:=ih s' hn x (y::b) hs'.1
   rw [List.append_assoc]
   refine⟨c++[y],by rw [k1];simp,?_,?_⟩
   ·refine (k2.append_right [y]).trans ?_
    simp only [List.append_assoc]
    exact List.Perm.append_left s' (List.Perm.swap _ _ _)
   refine List.pairwise_append.2 ⟨k3, by simp, fun p hp q hq => ?_⟩
   obtain rfl:q=y:=by simpa using hq
   rcases List.mem_append.1 (k2.mem_iff.1 hp) with h1|h1
   ·exact hs'.2.2 p h1 _ (by simp)
   obtain rfl : p = x := by simpa using h1
   unfold ltP at hlt;unfold leP;omega
  rw [if_neg hlt]
  refine⟨s'++[y]++[x],by simp,List.Perm.refl _,?_⟩
  refine List.pairwise_append.2 ⟨hs,by simp,fun p hp q hq=>?_⟩
  obtain rfl:q=x:=by simpa using hq
  have hyx:leP y q:=by unfold ltP at hlt;unfold leP;omega
  rcases List.mem_append.1 hp with h1|h1
  ·have:=hs'.2.2 p h1 y (by simp);unfold leP at *;omega
  obtain rfl : p = y := by simpa using h1
  exact hyx
/-- A stretch of pairs in order. -/
def segP (l:List (Int × Int)) (a b:Nat):List (Int × Int):=l.take a++(sortE ((l.drop a).take (b - a))++l.drop b)
theorem srtE_spec {l : List (Int × Int)} {a : Nat} (ha : a ≤ l.length) : ∀ i, a + i ≤ l.length → ∃ c, srtE a l i = l.take a ++ (c ++ l.drop (a + i)) ∧ c.Perm ((l.drop a).take i) ∧ List.Pairwise leP c
 | 0,_=>⟨[],by simp [srtE],by simp,by simp⟩
 | i + 1, hi => by
  obtain⟨c,k1,k2,k3⟩:=srtE_spec ha i (by omega)
  have hx:l.drop (a+i)=l[a+i]::l.drop (a+i+1):=List.drop_eq_getElem_cons (by omega)
  have hc:c.length=i:=by rw [k2.length_eq,List.length_take,List.length_drop];omega
  have hpre:(l.take a).length=a:=by rw [List.length_take];omega
  obtain⟨d,m1,m2,m3⟩:=sinkE_spec (l.take a) c l[a+i] (l.drop (a+i+1)) k3
  rw [hpre,hc] at m1
  refine⟨d,by rw [srtE,k1,hx,m1];rfl,m2.trans ?_,m3⟩
  have ht : (l.drop a).take (i + 1) = (l.drop a).take i ++ [l[a + i]] := by
   rw [List.take_succ_eq_append_getElem (by rw [List.length_drop];omega),List.getElem_drop]
  rw [ht]
  exact k2.append_right _
theorem srtE_all {l : List (Int × Int)} {a b i : Nat} (hab : a ≤ b) (hb : b ≤ l.length) (hi : i = b - a) : srtE a l i = segP l a b := by
 subst hi
 obtain⟨c,k1,k2,k3⟩:=srtE_spec (l:=l) (a:=a) (by omega) (b - a) (by omega)
 rw [k1,segP,sortE_eq k2 k3,show a+(b - a)=b by omega]
theorem segP_len {l : List (Int × Int)} {a b : Nat} (hab : a ≤ b) (hb : b ≤ l.length) : (segP l a b).length = l.length := by
 rw [segP,List.length_append,List.length_append,sortE_len,List.length_take,List.length_take,List.length_drop,List.length_drop];omega
theorem srtE_one (a:Nat) (l:List (Int × Int)):srtE a l 1=l:=rfl
theorem segP_self {l : List (Int × Int)} {a : Nat} (h : a ≤ l.length) : segP l a a = l := by
 rw [← srtE_all (i:=0) (Nat.le_refl _) h (by omega)];rfl
theorem map_swp1 {l : List (Int × Int)} {i e : Nat} {p q : Int × Int} (hp : l[i]? = some p) (hq : l[e]? = some q) : (swpP l i e).map (·.1) = swp (l.map (·.1)) ((i : Int), (e : Int)) := by
 have h1:l.getD i (0,0)=p:=by simp [List.getD,hp]
 have h2:l.getD e (0,0)=q:=by simp [List.getD,hq]
 have h3:(l.map (·.1)).getD i 0=p.1:=by simp [List.getD,hp]
 have h4:(l.map (·.1)).getD e 0=q.1:=by simp [List.getD,hq]
 rw [swpP,h1,h2,List.map_set,List.map_set,swp]
 dsimp only
 rw [Int.toNat_natCast,Int.toNat_natCast,h3,h4]
theorem map_swp2 {l : List (Int × Int)} {i e : Nat} {p q : Int × Int} (hp : l[i]? = some p) (hq : l[e]? = some q) : (swpP l i e).map (·.2) = swp (l.map (·.2)) ((i : Int), (e : Int)) := by
 have h1:l.getD i (0,0)=p:=by simp [List.getD,hp]
 have h2:l.getD e (0,0)=q:=by simp [List.getD,hq]
 have h3:(l.map (·.2)).getD i 0=p.2:=by simp [List.getD,hp]
 have h4:(l.map (·.2)).getD e 0=q.2:=by simp [List.getD,hq]
 rw [swpP,h1,h2,List.map_set,List.map_set,swp]
 dsimp only
 rw [Int.toNat_natCast,Int.toNat_natCast,h3,h4]
theorem sinkE_go {a : Nat} {l : List (Int × Int)} {d : Nat} {p q : Int × Int} (hp : l[a + d]? = some p) (hq : l[a + d + 1]? = some q) (h : ltP q p) : sinkE a l (d + 1) = sinkE a (swpP l (a + d) (a + d + 1)) d := by
 have h1:l.getD (a+d) (0,0)=p:=by simp [List.getD,hp]
 have h2:l.getD (a+d+1) (0,0)=q:=by simp [List.getD,hq]
 rw [sinkE,h1,h2,if_pos h]
theorem sinkE_stop {a : Nat} {l : List (Int × Int)} {d : Nat} {p q : Int × Int} (hp : l[a + d]? = some p) (hq : l[a + d + 1]? = some q) (h : ¬ ltP q p) : sinkE a l (d + 1) = l := by
 have h1:l.getD (a+d) (0,0)=p:=by simp [List.getD,hp]
 have h2:l.getD (a+d+1) (0,0)=q:=by simp [List.getD,hq]
 rw [sinkE,h1,h2,if_neg h]
/-- A column as pairs. -/
def zipC (c:Crk):List (Int × Int):=List.zip c.vals c.rows
def segC (c:Crk) (a b:Nat):Crk:=⟨(segP (zipC c) a b).map (·.1),(segP (zipC c) a b).map (·.2),c.piv⟩
theorem zipC_len {c:Crk} (h:c.rows.length=c.vals.length):(zipC c).length=c.vals.length:=by simp [zipC,h]
theorem zipC_1 {c : Crk} (h : c.rows.length = c.vals.length) : (zipC c).map (·.1) = c.vals := by
 rw [zipC];exact List.map_fst_zip (by omega)
theorem zipC_2 {c : Crk} (h : c.rows.length = c.vals.length) : (zipC c).map (·.2) = c.rows := by
 rw [zipC];exact List.map_snd_zip (by omega)
theorem segC_len {c : Crk} {a b : Nat} (h : c.rows.length = c.vals.length) (hab : a ≤ b) (hb : b ≤ c.vals.length) : (segC c a b).vals.length = c.vals.length ∧ (segC c a b).rows.length = c.vals.length := by
 have:=zipC_len h
 simp only [segC,List.length_map]
 rw [segP_len hab (by omega)]
 omega
theorem elems_seg {c : Crk} {a : Nat} (h : c.rows.length = c.vals.length) : ∀ n, a + n ≤ c.vals.length → elemsN c a n = ((zipC c).drop a).take n
 | 0,_=>by simp [elemsN]
 | n + 1, hn => by
  have hz:=zipC_len h
  rw [elemsN,elems_seg h n (by omega),List.take_succ_eq_append_getElem (by rw [List.length_drop];omega),List.getElem_drop]
  congr 1
  have h1:a+n<c.vals.length:=by omega
  have h2:a+n<c.rows.length:=by omega
  have e:((a:Int)+(n:Int)).toNat=a+n:=by omega
  simp only [elI,e,zipC,List.getElem_zip]
  rw [getD_at h1,getD_at h2]
/-- What stands while the pairs are written back. -/
def putP (l s:List (Int × Int)) (a i:Nat):List (Int × Int):=l.take a++(s.take i++l.drop (a+i))
theorem putP_len {l s : List (Int × Int)} {a i : Nat} (h1 : i ≤ s.length) (h2 : a + i ≤ l.length) : (putP l s a i).length = l.length := by
 rw [putP,List.length_append,List.length_append,List.length_take,List.length_take,List.length_drop];omega
theorem putP_step {l s : List (Int × Int)} {a i : Nat} {p : Int × Int} (hp : s[i]? = some p) (h2 : a + i < l.length) : putP l s a (i + 1) = (putP l s a i).set (a + i) p := by
 have hi : i < s.length := by
  rcases Nat.lt_or_ge i s.length with h'|h'
  ·exact h'
  rw [List.getElem?_eq_none h'] at hp;cases hp
 have hx:l.drop (a+i)=l[a+i]::l.drop (a+i+1):=List.drop_eq_getElem_cons (by omega)
 have ha:(l.take a).length=a:=by rw [List.length_take];omega
 have hs:(s.take i).length=i:=by rw [List.length_take];omega
 rw [putP,putP,take_snoc hp,hx,List.set_append_right _ _ (by rw [ha];omega),ha,show a+i - a=i by omega,List.set_append_right _ _ (by rw [hs];omega),hs,Nat.sub_self,List.set_cons_zero]
 simp [Nat.add_assoc]
theorem putP_all {l : List (Int × Int)} {a b i : Nat} (hab : a ≤ b) (hb : b ≤ l.length) (hi : i = b - a) : putP l (sortE ((l.drop a).take (b - a))) a i = segP l a b := by
 subst hi
 have e:(sortE ((l.drop a).take (b - a))).take (b - a)=sortE ((l.drop a).take (b - a)):=List.take_of_length_le (by rw [sortE_len,List.length_take];omega)
 rw [putP,segP,e,show a+(b - a)=b by omega]
theorem putP_zero (l s:List (Int × Int)) (a:Nat):putP l s a 0=l:=by simp [putP]

theorem e_for_A70_0 {P : Program} {N : Nat} {s : Slots} {R : List Res} {Q : Exit → Slots → List Res → Prop} {α : Type} {c : Code} (keep : List Nat) (mods : α → Slots) (Rf : α → List Res) (I : α → Prop) (m : α → Nat) (x0 : α) {base : Slots} (h0 : I x0) (hR : R = Rf x0) (h1 : chk s (mods x0))
  (round:∀ x,I x→ECode P N c (mods x++base) (Rf x) (EThen (fun s' R'=>∃ y,m y<m x∧I y∧R'=Rf y∧chk s' (mods y)∧chk s' base) Q)) (hb:keepOf s keep=base:=by simp only [E.keepOf,E.get,E.ev,E.cv,E.fill',E.fill,E.slotsOf,Res.sh,AC.sh,AC.sh.shs,AV.sh,E.splice,List.map_cons,List.map_nil,List.cons_append,List.nil_append,List.append_nil,List.length_cons,List.length_nil,List.take_zero,List.drop_zero,List.take_succ_cons,List.drop_succ_cons,List.drop_nil,List.take_nil,List.set_cons_zero,List.set_cons_succ,Nat.zero_add,Nat.add_zero,Nat.reduceAdd,Nat.reduceSub,reduceIte,Nat.reduceEqDiff,E.back,E.backR,E.ix,Res.un,AC.un,AC.un.uns,AV.un,E.un,Option.map_some,Option.map_none,Option.getD_some,List.getElem?_cons_zero,List.getElem?_cons_succ,List.getElem?_nil,crkO,crkR];rfl):ECode P N (.loop c) s R Q:=E_for keep mods Rf I m x0 hb h0 hR h1 round
theorem e_tidy_A70_1 {P:Program} {N:Nat} {s:Slots} {R:List Res} {Q:Exit→Slots→List Res→Prop} {c:Code} (keep:List Nat) {base:Slots} {R':List Res} (h:ECode P N c base R' Q) (hb:keepOf s keep=base:=by simp only [E.keepOf,E.get,E.ev,E.cv,E.fill',E.fill,E.slotsOf,Res.sh,AC.sh,AC.sh.shs,AV.sh,E.splice,List.map_cons,List.map_nil,List.cons_append,List.nil_append,List.append_nil,List.length_cons,List.length_nil,List.take_zero,List.drop_zero,List.take_succ_cons,List.drop_succ_cons,List.drop_nil,List.take_nil,List.set_cons_zero,List.set_cons_succ,Nat.zero_add,Nat.add_zero,Nat.reduceAdd,Nat.reduceSub,reduceIte,Nat.reduceEqDiff,E.back,E.backR,E.ix,Res.un,AC.un,AC.un.uns,AV.un,E.un,Option.map_some,Option.map_none,Option.getD_some,List.getElem?_cons_zero,List.getElem?_cons_succ,List.getElem?_nil,crkO,crkR];rfl) (hR:R=R':=by (try simp only [E.keepOf,E.get,E.ev,E.cv,E.fill',E.fill,E.slotsOf,Res.sh,AC.sh,AC.sh.shs,AV.sh,E.splice,List.map_cons,List.map_nil,List.cons_append,List.nil_append,List.append_nil,List.length_cons,List.length_nil,List.take_zero,List.drop_zero,List.take_succ_cons,List.drop_succ_cons,List.drop_nil,List.take_nil,List.set_cons_zero,List.set_cons_succ,Nat.zero_add,Nat.add_zero,Nat.reduceAdd,Nat.reduceSub,reduceIte,Nat.reduceEqDiff,E.back,E.backR,E.ix,Res.un,AC.un,AC.un.uns,AV.un,E.un,Option.map_some,Option.map_none,Option.getD_some,List.getElem?_cons_zero,List.getElem?_cons_succ,List.getElem?_nil,crkO,crkR]);rfl):ECode P N c s R Q:=E_tidy keep hb hR h
theorem g_tidy_A70_2 {P:Program} {N n:Nat} {s:Slots} {R:List Res} {Q:Exit→Slots→List Res→Prop} {c:Code} (keep:List Nat) {base:Slots} {R':List Res} (h:GCode P N n c base R' Q) (hb:keepOf s keep=base:=by simp only [E.keepOf,E.get,E.ev,E.cv,E.fill',E.fill,E.slotsOf,Res.sh,AC.sh,AC.sh.shs,AV.sh,E.splice,List.map_cons,List.map_nil,List.cons_append,List.nil_append,List.append_nil,List.length_cons,List.length_nil,List.take_zero,List.drop_zero,List.take_succ_cons,List.drop_succ_cons,List.drop_nil,List.take_nil,List.set_cons_zero,List.set_cons_succ,Nat.zero_add,Nat.add_zero,Nat.reduceAdd,Nat.reduceSub,reduceIte,Nat.reduceEqDiff,E.back,E.backR,E.ix,Res.un,AC.un,AC.un.uns,AV.un,E.un,Option.map_some,Option.map_none,Option.getD_some,List.getElem?_cons_zero,List.getElem?_cons_succ,List.getElem?_nil,crkO,crkR];rfl) (hR:R=R':=by (try simp only [E.keepOf,E.get,E.ev,E.cv,E.fill',E.fill,E.slotsOf,Res.sh,AC.sh,AC.sh.shs,AV.sh,E.splice,List.map_cons,List.map_nil,List.cons_append,List.nil_append,List.append_nil,List.length_cons,List.length_nil,List.take_zero,List.drop_zero,List.take_succ_cons,List.drop_succ_cons,List.drop_nil,List.take_nil,List.set_cons_zero,List.set_cons_succ,Nat.zero_add,Nat.add_zero,Nat.reduceAdd,Nat.reduceSub,reduceIte,Nat.reduceEqDiff,E.back,E.backR,E.ix,Res.un,AC.un,AC.un.uns,AV.un,E.un,Option.map_some,Option.map_none,Option.getD_some,List.getElem?_cons_zero,List.getElem?_cons_succ,List.getElem?_nil,crkO,crkR]);rfl):GCode P N n c s R Q:=G_tidy keep hb hR h
theorem g_forD_A70_3 {P : Program} {N n : Nat} {s : Slots} {R : List Res} {Q : Exit → Slots → List Res → Prop} {α : Type} {c : Code} (keep : List Nat) (mods : α → Slots) (Rf : α → List Res) (I : α → Prop) (m : α → Nat) (x0 : α) {base : Slots} (h0 : I x0) (hR : R = Rf x0) (h1 : chk s (mods x0))
  (round:∀ x,I x→GCode P N n c (mods x++base) (Rf x) (EThen (fun s' R'=>∃ σ,okσ n R' σ=true ∧ ∃ y,m y<m x∧I y∧reR n σ R'=Rf y∧chk (renS n σ s') (mods y)∧chk (renS n σ s') base) Q)) (hb:keepOf s keep=base:=by simp only [E.keepOf,E.get,E.ev,E.cv,E.fill',E.fill,E.slotsOf,Res.sh,AC.sh,AC.sh.shs,AV.sh,E.splice,List.map_cons,List.map_nil,List.cons_append,List.nil_append,List.append_nil,List.length_cons,List.length_nil,List.take_zero,List.drop_zero,List.take_succ_cons,List.drop_succ_cons,List.drop_nil,List.take_nil,List.set_cons_zero,List.set_cons_succ,Nat.zero_add,Nat.add_zero,Nat.reduceAdd,Nat.reduceSub,reduceIte,Nat.reduceEqDiff,E.back,E.backR,E.ix,Res.un,AC.un,AC.un.uns,AV.un,E.un,Option.map_some,Option.map_none,Option.getD_some,List.getElem?_cons_zero,List.getElem?_cons_succ,List.getElem?_nil,crkO,crkR];rfl):GCode P N n (.loop c) s R Q:=G_forD keep mods Rf I m x0 hb h0 hR h1 round

set_option maxRecDepth 20000 in
set_option maxHeartbeats 8000000 in
theorem c_spec_l15Sort (c : Crk) (a b : Nat) (hl : c.rows.length = c.vals.length) (hab : a ≤ b) (hb : b ≤ c.vals.length) (h64 : c.vals.length ≤ 64) : EFn Tryz.prog 165 [.c (.bp 0 0), .c (.sc (.int .i64 (a : Int))), .c (.sc (.int .i64 (b : Int)))] [.box (crkO 1 c), .row 3 1 (ints c.vals), .row 3 1 (ints c.rows), .row 151 2 (pairs c.piv)] (fun r S => r = .tup [] ∧ S = [.box (crkO 1 c), .row 3 1 (ints (segC c a b).vals), .row 3 1 (ints (segC c a b).rows), .row 151 2 (pairs c.piv)]) := by
  refine E_fn Tryz.func165 rfl (Nat.le_of_ble_eq_true rfl) ?_
  have hz:=zipC_len hl
  refine E_seq ?_
  refine E_region' (L:=[0,1,2]) rfl ?_
  refine xmv ?_
  refine p_ rfl xb2 ?_
  refine xas ?_
  refine EOps_nil ?_
  refine E_block ?_
  refine e_for_A70_0 (α:=Nat) [0,1,2] (fun i=>[(6,.c (.sc (.int .i64 (((a:Int)+i)))))]) (fun i=>[.box (crkO 1 c),.row 3 1 (ints ((srtE a (zipC c) i).map (·.1))),.row 3 1 (ints ((srtE a (zipC c) i).map (·.2))),.row 151 2 (pairs c.piv)]) (fun i=>1≤i∧(a+i≤b∨i=1)) (fun i=>b - (a+i)) (1) ?_ (by rw [srtE_one,zipC_1 hl,zipC_2 hl]<;>rfl) ⟨.inr (int_eq (by omega)),trivial⟩ ?_
  · exact⟨Nat.le_refl _,.inr rfl⟩
  rintro i ⟨hi1,hi2⟩
  have hil:=srtE_len a (zipC c) i
  refine E_seq ?_
  refine E_seq ?_
  refine E_region' (L:=[0,1,2]) rfl ?_
  refine xmv ?_
  refine xmv ?_
  refine p_ rfl (L_bin rfl rfl rfl rfl) ?_
  refine EOps_nil ?_
  refine E_cond rfl (fun hc12=>?_) (fun hc12=>?_)
  · have hlt : a + i < b := by simp at hc12; omega
    refine E_skip ?_
    refine E_seq ?_
    refine E_block ?_
    refine E_seq ?_
    refine E_region' (L:=[0,1]) rfl ?_
    refine xmv ?_
    refine xas ?_
    refine EOps_nil ?_
    refine E_block ?_
    refine e_for_A70_0 (α:=Nat × List (Int × Int)) [0,1,2,6,12] (fun (d,cur)=>[(7,.c (.sc (.int .i64 (((a:Int)+d)))))]) (fun (d,cur)=>[.box (crkO 1 c),.row 3 1 (ints (cur.map (·.1))),.row 3 1 (ints (cur.map (·.2))),.row 151 2 (pairs c.piv)]) (fun (d,cur)=>d≤i∧cur.length=c.vals.length∧sinkE a cur d=srtE a (zipC c) (i+1)) (fun (d,cur)=>d) ((i,srtE a (zipC c) i)) ?_ (rfl) ⟨.inr rfl,trivial⟩ ?_
    · exact⟨Nat.le_refl _,by rw [hil,hz],rfl⟩
    rintro⟨d,cur⟩ ⟨hdi,hlc,hsk⟩
    dsimp only
    have hlr:cur.length=c.rows.length:=by omega
    refine E_seq ?_
    refine E_seq ?_
    refine E_drawT mixed ?_
    refine tj_ 0 rfl (L_move rfl) ?_
    refine tj_ 1 rfl (L_move rfl) ?_
    refine tj_ 2 rfl (L_bin rfl rfl rfl rfl) ?_
    refine tj_ 3 rfl (L_move rfl) ?_
    refine T_split 19 (b:=_) rfl rfl (fun hg19=>?_) (fun hg19=>?_)
    · have hd0 : 0 < d := by simp at hg19; omega
      obtain⟨p,hp⟩:=at_lt (l:=cur) (k:=a+(d - 1)) (by omega)
      obtain⟨q,hq⟩:=at_lt (l:=cur) (k:=a+(d - 1)+1) (by omega)
      have hq':cur[a+d]? = some q:=by rw [← hq];congr 1;omega
      have hv1:(cur.map (·.1))[((a:Int)+d - 1).toNat]? = some p.1:=by rw [show ((a:Int)+d - 1).toNat=a+(d - 1) by omega,List.getElem?_map,hp];rfl
      have hv2:(cur.map (·.1))[((a:Int)+d).toNat]? = some q.1:=by rw [show ((a:Int)+d).toNat=a+d by omega,List.getElem?_map,hq'];rfl
      have hw1:(cur.map (·.2))[((a:Int)+d - 1).toNat]? = some p.2:=by rw [show ((a:Int)+d - 1).toNat=a+(d - 1) by omega,List.getElem?_map,hp];rfl
      have hw2:(cur.map (·.2))[((a:Int)+d).toNat]? = some q.2:=by rw [show ((a:Int)+d).toNat=a+d by omega,List.getElem?_map,hq'];rfl
      refine tj_ 4 rfl (L_move rfl) ?_
      refine tj_ 5 rfl (L_nilCheck rfl rfl rfl) ?_
      refine tj_ 6 rfl (l_field rfl fo_49_0) ?_
      refine tl_ 7 rfl (L_load rfl (xb0 ty_22)) ?_
      refine tj_ 8 rfl (L_move rfl) ?_
      refine tj_ 9 rfl xb5 ?_
      refine tj_ 10 rfl (L_index rfl rfl (xii sl_22 ty_3)) ?_
      refine tl_ 11 rfl (L_load rfl (xb0 ty_3)) ?_
      refine tj_ 12 rfl (L_move rfl) ?_
      refine tj_ 13 rfl (L_nilCheck rfl rfl rfl) ?_
      refine tj_ 14 rfl (l_field rfl fo_49_0) ?_
      refine tl_ 15 rfl (L_load rfl (xb0 ty_22)) ?_
      refine tj_ 16 rfl (L_move rfl) ?_
      refine tj_ 17 rfl (L_index rfl rfl (xii sl_22 ty_3)) ?_
      refine tl_ 18 rfl (L_load rfl (xb0 ty_3)) ?_
      refine tj_ 19 rfl (L_bin rfl rfl rfl rfl) ?_
      refine tj_ 20 rfl (L_move rfl) ?_
      refine T_split 36 (b:=_) rfl rfl (fun hg36=>?_) (fun hg36=>?_)
      · refine tk_ 21 rfl ?_
        refine tk_ 22 rfl ?_
        refine tk_ 23 rfl ?_
        refine tk_ 24 rfl ?_
        refine tk_ 25 rfl ?_
        refine tk_ 26 rfl ?_
        refine tk_ 27 rfl ?_
        refine tk_ 28 rfl ?_
        refine tk_ 29 rfl ?_
        refine tk_ 30 rfl ?_
        refine tk_ 31 rfl ?_
        refine tk_ 32 rfl ?_
        refine tk_ 33 rfl ?_
        refine tk_ 34 rfl ?_
        refine tk_ 35 rfl ?_
        refine tk_ 36 rfl ?_
        refine tk_ 37 rfl ?_
        refine tk_ 38 rfl ?_
        refine tk_ 39 rfl ?_
        refine tk_ 40 rfl ?_
        refine tk_ 41 rfl ?_
        refine tk_ 42 rfl ?_
        refine tk_ 43 rfl ?_
        refine tk_ 44 rfl ?_
        refine tk_ 45 rfl ?_
        refine tk_ 46 rfl ?_
        refine tk_ 47 rfl ?_
        refine tk_ 48 rfl ?_
        refine tk_ 49 rfl ?_
        refine tk_ 50 rfl ?_
        refine tk_ 51 rfl ?_
        refine tk_ 52 rfl ?_
        refine tk_ 53 rfl ?_
        refine tk_ 54 rfl ?_
        refine tj_ 55 rfl (L_pick rfl rfl) ?_
        refine tj_ 56 rfl (L_pick rfl rfl) ?_
        refine T_done (by kernel_rfl) ?_
        refine E_cond rfl (fun hc72=>?_) (fun hc72=>?_)
        · have hltp : ltP q p := by
            first
              | (have h1 : q.1 < p.1 := by simpa using hg36
                 exact .inl h1)
              | (have h1 : p.1 = q.1 := by simpa using hg53
                 have h2:q.2<p.2:=by simpa using hc72
                 exact .inr ⟨h1.symm,h2⟩)
              | (exfalso;simp at hc72;done)
          have hgo:=sinkE_go (a:=a) hp hq hltp
          have e1:d - 1+1=d:=by omega
          rw [e1] at hgo
          have e2:((a+(d - 1):Nat):Int)=(a:Int)+d - 1:=by omega
          have e3:((a+(d - 1)+1:Nat):Int)=(a:Int)+d:=by omega
          have m1:=map_swp1 hp hq
          have m2:=map_swp2 hp hq
          rw [e2,e3] at m1 m2
          refine E_skip ?_
          refine E_seq ?_
          refine E_block ?_
          refine E_seq ?_
          refine e_tidy_A70_1 [0,1,2,6,7,12,72] ?_
          refine E_region' (L:=[0,1,2,3,4,5,6,7]) rfl ?_
          refine xmv ?_
          refine p_ rfl (L_nilCheck rfl rfl rfl) ?_
          refine p_ rfl (l_field rfl fo_49_0) ?_
          refine l_ rfl (L_load rfl (xb0 ty_22)) ?_
          refine xmv ?_
          refine p_ rfl xb5 ?_
          refine xmv ?_
          refine x_frame [1] rfl rfl rfl rfl rfl ca_166 rfl (c_swapI (cur.map (·.1)) c.vals.length ((a:Int)+d - 1) ((a:Int)+d) p.1 q.1 (by omega) (by omega) (by rw [List.length_map];exact hlc) hv1 hv2) ?_
          rintro r S ⟨r0,S0,⟨rfl,rfl⟩,rfl,rfl⟩
          refine EOps_nil ?_
          refine e_tidy_A70_1 [0,1,2,6,7,12,72] ?_
          refine E_region' (L:=[0,1,2,3,4,5,6,7]) rfl ?_
          refine xmv ?_
          refine p_ rfl (L_nilCheck rfl rfl rfl) ?_
          refine p_ rfl (l_field rfl fo_49_1) ?_
          refine l_ rfl (L_load rfl (xb0 ty_22)) ?_
          refine xmv ?_
          refine p_ rfl xb5 ?_
          refine xmv ?_
          refine x_frame [2] rfl rfl rfl rfl rfl ca_166 rfl (c_swapI (cur.map (·.2)) c.rows.length ((a:Int)+d - 1) ((a:Int)+d) p.2 q.2 (by omega) (by omega) (by rw [List.length_map];exact hlr) hw1 hw2) ?_
          rintro r S ⟨r0,S0,⟨rfl,rfl⟩,rfl,rfl⟩
          refine EOps_nil ?_
          refine E_region' (L:=[0,1,2]) rfl ?_
          refine xmv ?_
          refine p_ rfl xb5 ?_
          refine xas ?_
          refine EOps_nil ?_
          refine⟨(d - 1,swpP cur (a+(d - 1)) (a+(d - 1)+1)),?_,?_,(by rw [m1,m2];rfl),⟨.inr (int_eq (by dsimp only;omega)),trivial⟩,⟨.inr rfl,.inr rfl,.inr rfl,.inr rfl,.inr rfl,trivial⟩⟩
          · first|omega|(dsimp only;omega)|(simp;omega)
          exact⟨by dsimp only;omega,by dsimp only;rw [swpP_len];exact hlc,by dsimp only;rw [← hgo];exact hsk⟩
        exact Bool.noConfusion (hc72:true=false)
      refine tj_ 21 rfl (L_move rfl) ?_
      refine tj_ 22 rfl (L_nilCheck rfl rfl rfl) ?_
      refine tj_ 23 rfl (l_field rfl fo_49_0) ?_
      refine tl_ 24 rfl (L_load rfl (xb0 ty_22)) ?_
      refine tj_ 25 rfl (L_move rfl) ?_
      refine tj_ 26 rfl xb5 ?_
      refine tj_ 27 rfl (L_index rfl rfl (xii sl_22 ty_3)) ?_
      refine tl_ 28 rfl (L_load rfl (xb0 ty_3)) ?_
      refine tj_ 29 rfl (L_move rfl) ?_
      refine tj_ 30 rfl (L_nilCheck rfl rfl rfl) ?_
      refine tj_ 31 rfl (l_field rfl fo_49_0) ?_
      refine tl_ 32 rfl (L_load rfl (xb0 ty_22)) ?_
      refine tj_ 33 rfl (L_move rfl) ?_
      refine tj_ 34 rfl (L_index rfl rfl (xii sl_22 ty_3)) ?_
      refine tl_ 35 rfl (L_load rfl (xb0 ty_3)) ?_
      refine tj_ 36 rfl (L_bin rfl rfl rfl rfl) ?_
      refine tj_ 37 rfl (L_move rfl) ?_
      refine T_split 53 (b:=_) rfl rfl (fun hg53=>?_) (fun hg53=>?_)
      · refine tj_ 38 rfl (L_move rfl) ?_
        refine tj_ 39 rfl (L_nilCheck rfl rfl rfl) ?_
        refine tj_ 40 rfl (l_field rfl fo_49_1) ?_
        refine tl_ 41 rfl (L_load rfl (xb0 ty_22)) ?_
        refine tj_ 42 rfl (L_move rfl) ?_
        refine tj_ 43 rfl xb5 ?_
        refine tj_ 44 rfl (L_index rfl rfl (xii sl_22 ty_3)) ?_
        refine tl_ 45 rfl (L_load rfl (xb0 ty_3)) ?_
        refine tj_ 46 rfl (L_move rfl) ?_
        refine tj_ 47 rfl (L_nilCheck rfl rfl rfl) ?_
        refine tj_ 48 rfl (l_field rfl fo_49_1) ?_
        refine tl_ 49 rfl (L_load rfl (xb0 ty_22)) ?_
        refine tj_ 50 rfl (L_move rfl) ?_
        refine tj_ 51 rfl (L_index rfl rfl (xii sl_22 ty_3)) ?_
        refine tl_ 52 rfl (L_load rfl (xb0 ty_3)) ?_
        refine tj_ 53 rfl (L_bin rfl rfl rfl rfl) ?_
        refine tj_ 54 rfl (L_pick rfl rfl) ?_
        refine tj_ 55 rfl (L_pick rfl rfl) ?_
        refine tj_ 56 rfl (L_pick rfl rfl) ?_
        refine T_done (by kernel_rfl) ?_
        refine E_cond rfl (fun hc72=>?_) (fun hc72=>?_)
        · have hltp : ltP q p := by
            first
              | (have h1 : q.1 < p.1 := by simpa using hg36
                 exact .inl h1)
              | (have h1 : p.1 = q.1 := by simpa using hg53
                 have h2:q.2<p.2:=by simpa using hc72
                 exact .inr ⟨h1.symm,h2⟩)
              | (exfalso;simp at hc72;done)
          have hgo:=sinkE_go (a:=a) hp hq hltp
          have e1:d - 1+1=d:=by omega
          rw [e1] at hgo
          have e2:((a+(d - 1):Nat):Int)=(a:Int)+d - 1:=by omega
          have e3:((a+(d - 1)+1:Nat):Int)=(a:Int)+d:=by omega
          have m1:=map_swp1 hp hq
          have m2:=map_swp2 hp hq
          rw [e2,e3] at m1 m2
          refine E_skip ?_
          refine E_seq ?_
          refine E_block ?_
          refine E_seq ?_
          refine e_tidy_A70_1 [0,1,2,6,7,12,72] ?_
          refine E_region' (L:=[0,1,2,3,4,5,6,7]) rfl ?_
          refine xmv ?_
          refine p_ rfl (L_nilCheck rfl rfl rfl) ?_
          refine p_ rfl (l_field rfl fo_49_0) ?_
          refine l_ rfl (L_load rfl (xb0 ty_22)) ?_
          refine xmv ?_
          refine p_ rfl xb5 ?_
          refine xmv ?_
          refine x_frame [1] rfl rfl rfl rfl rfl ca_166 rfl (c_swapI (cur.map (·.1)) c.vals.length ((a:Int)+d - 1) ((a:Int)+d) p.1 q.1 (by omega) (by omega) (by rw [List.length_map];exact hlc) hv1 hv2) ?_
          rintro r S ⟨r0,S0,⟨rfl,rfl⟩,rfl,rfl⟩
          refine EOps_nil ?_
          refine e_tidy_A70_1 [0,1,2,6,7,12,72] ?_
          refine E_region' (L:=[0,1,2,3,4,5,6,7]) rfl ?_
          refine xmv ?_
          refine p_ rfl (L_nilCheck rfl rfl rfl) ?_
          refine p_ rfl (l_field rfl fo_49_1) ?_
          refine l_ rfl (L_load rfl (xb0 ty_22)) ?_
          refine xmv ?_
          refine p_ rfl xb5 ?_
          refine xmv ?_
          refine x_frame [2] rfl rfl rfl rfl rfl ca_166 rfl (c_swapI (cur.map (·.2)) c.rows.length ((a:Int)+d - 1) ((a:Int)+d) p.2 q.2 (by omega) (by omega) (by rw [List.length_map];exact hlr) hw1 hw2) ?_
          rintro r S ⟨r0,S0,⟨rfl,rfl⟩,rfl,rfl⟩
          refine EOps_nil ?_
          refine E_region' (L:=[0,1,2]) rfl ?_
          refine xmv ?_
          refine p_ rfl xb5 ?_
          refine xas ?_
          refine EOps_nil ?_
          refine⟨(d - 1,swpP cur (a+(d - 1)) (a+(d - 1)+1)),?_,?_,(by rw [m1,m2];rfl),⟨.inr (int_eq (by dsimp only;omega)),trivial⟩,⟨.inr rfl,.inr rfl,.inr rfl,.inr rfl,.inr rfl,trivial⟩⟩
          · first|omega|(dsimp only;omega)|(simp;omega)
          exact⟨by dsimp only;omega,by dsimp only;rw [swpP_len];exact hlc,by dsimp only;rw [← hgo];exact hsk⟩
        have hcur : cur = srtE a (zipC c) (i + 1) := by
          first
            | (have h0 : d = 0 := by simp at hg19; omega
               subst h0
               exact hsk)
            | (have hn : ¬ ltP q p := by
                 intro hlt'
                 unfold ltP at hlt'
                 first
                   | (simp at hg36 hg53 hc72;omega)
                   | (simp at hg36 hg53;omega)
               have hst:=sinkE_stop (a:=a) hp hq hn
               rw [show d - 1+1=d by omega] at hst
               exact hst.symm.trans hsk)
        refine E_exit ?_
        refine E_region' (L:=[0,1,2]) rfl ?_
        refine xmv ?_
        refine p_ rfl xb2 ?_
        refine xas ?_
        refine EOps_nil ?_
        refine⟨i+1,?_,?_,(by rw [hcur]<;>rfl),⟨.inr (int_eq (by omega)),trivial⟩,⟨.inr rfl,.inr rfl,.inr rfl,trivial⟩⟩
        · first|omega|(dsimp only;omega)|(simp;omega)
        exact⟨by omega,.inl (by omega)⟩
      refine tk_ 38 rfl ?_
      refine tk_ 39 rfl ?_
      refine tk_ 40 rfl ?_
      refine tk_ 41 rfl ?_
      refine tk_ 42 rfl ?_
      refine tk_ 43 rfl ?_
      refine tk_ 44 rfl ?_
      refine tk_ 45 rfl ?_
      refine tk_ 46 rfl ?_
      refine tk_ 47 rfl ?_
      refine tk_ 48 rfl ?_
      refine tk_ 49 rfl ?_
      refine tk_ 50 rfl ?_
      refine tk_ 51 rfl ?_
      refine tk_ 52 rfl ?_
      refine tk_ 53 rfl ?_
      refine tj_ 54 rfl (L_pick rfl rfl) ?_
      refine tj_ 55 rfl (L_pick rfl rfl) ?_
      refine tj_ 56 rfl (L_pick rfl rfl) ?_
      refine T_done (by kernel_rfl) ?_
      refine E_cond rfl (fun hc72=>?_) (fun hc72=>?_)
      · exact Bool.noConfusion (hc72:false=true)
      have hcur : cur = srtE a (zipC c) (i + 1) := by
        first
          | (have h0 : d = 0 := by simp at hg19; omega
             subst h0
             exact hsk)
          | (have hn : ¬ ltP q p := by
               intro hlt'
               unfold ltP at hlt'
               first
                 | (simp at hg36 hg53 hc72;omega)
                 | (simp at hg36 hg53;omega)
             have hst:=sinkE_stop (a:=a) hp hq hn
             rw [show d - 1+1=d by omega] at hst
             exact hst.symm.trans hsk)
      refine E_exit ?_
      refine E_region' (L:=[0,1,2]) rfl ?_
      refine xmv ?_
      refine p_ rfl xb2 ?_
      refine xas ?_
      refine EOps_nil ?_
      refine⟨i+1,?_,?_,(by rw [hcur]<;>rfl),⟨.inr (int_eq (by omega)),trivial⟩,⟨.inr rfl,.inr rfl,.inr rfl,trivial⟩⟩
      · first|omega|(dsimp only;omega)|(simp;omega)
      exact⟨by omega,.inl (by omega)⟩
    refine tk_ 4 rfl ?_
    refine tk_ 5 rfl ?_
    refine tk_ 6 rfl ?_
    refine tk_ 7 rfl ?_
    refine tk_ 8 rfl ?_
    refine tk_ 9 rfl ?_
    refine tk_ 10 rfl ?_
    refine tk_ 11 rfl ?_
    refine tk_ 12 rfl ?_
    refine tk_ 13 rfl ?_
    refine tk_ 14 rfl ?_
    refine tk_ 15 rfl ?_
    refine tk_ 16 rfl ?_
    refine tk_ 17 rfl ?_
    refine tk_ 18 rfl ?_
    refine tk_ 19 rfl ?_
    refine tk_ 20 rfl ?_
    refine tk_ 21 rfl ?_
    refine tk_ 22 rfl ?_
    refine tk_ 23 rfl ?_
    refine tk_ 24 rfl ?_
    refine tk_ 25 rfl ?_
    refine tk_ 26 rfl ?_
    refine tk_ 27 rfl ?_
    refine tk_ 28 rfl ?_
    refine tk_ 29 rfl ?_
    refine tk_ 30 rfl ?_
    refine tk_ 31 rfl ?_
    refine tk_ 32 rfl ?_
    refine tk_ 33 rfl ?_
    refine tk_ 34 rfl ?_
    refine tk_ 35 rfl ?_
    refine tk_ 36 rfl ?_
    refine tk_ 37 rfl ?_
    refine tk_ 38 rfl ?_
    refine tk_ 39 rfl ?_
    refine tk_ 40 rfl ?_
    refine tk_ 41 rfl ?_
    refine tk_ 42 rfl ?_
    refine tk_ 43 rfl ?_
    refine tk_ 44 rfl ?_
    refine tk_ 45 rfl ?_
    refine tk_ 46 rfl ?_
    refine tk_ 47 rfl ?_
    refine tk_ 48 rfl ?_
    refine tk_ 49 rfl ?_
    refine tk_ 50 rfl ?_
    refine tk_ 51 rfl ?_
    refine tk_ 52 rfl ?_
    refine tk_ 53 rfl ?_
    refine tk_ 54 rfl ?_
    refine tk_ 55 rfl ?_
    refine tj_ 56 rfl (L_pick rfl rfl) ?_
    refine T_done (by kernel_rfl) ?_
    refine E_cond rfl (fun hc72=>?_) (fun hc72=>?_)
    · exact Bool.noConfusion (hc72:false=true)
    have hcur : cur = srtE a (zipC c) (i + 1) := by
      first
        | (have h0 : d = 0 := by simp at hg19; omega
           subst h0
           exact hsk)
        | (have hn : ¬ ltP q p := by
             intro hlt'
             unfold ltP at hlt'
             first
               | (simp at hg36 hg53 hc72;omega)
               | (simp at hg36 hg53;omega)
           have hst:=sinkE_stop (a:=a) hp hq hn
           rw [show d - 1+1=d by omega] at hst
           exact hst.symm.trans hsk)
    refine E_exit ?_
    refine E_region' (L:=[0,1,2]) rfl ?_
    refine xmv ?_
    refine p_ rfl xb2 ?_
    refine xas ?_
    refine EOps_nil ?_
    refine⟨i+1,?_,?_,(by rw [hcur]<;>rfl),⟨.inr (int_eq (by omega)),trivial⟩,⟨.inr rfl,.inr rfl,.inr rfl,trivial⟩⟩
    · first|omega|(dsimp only;omega)|(simp;omega)
    exact⟨by omega,.inl (by omega)⟩
  have hend : srtE a (zipC c) i = segP (zipC c) a b := by
    have hge:¬ a+i<b:=by simp at hc12;omega
    rcases Nat.eq_or_lt_of_le hab with h|h
    · subst h
      obtain rfl:i=1:=by omega
      rw [srtE_one,segP_self (by omega)]
    exact srtE_all hab (by omega) (by omega)
  refine E_exit ?_
  refine⟨_,[],rfl,rfl,rfl,?_⟩
  rw [hend];rfl

set_option maxRecDepth 20000 in
set_option maxHeartbeats 8000000 in
theorem c___impl_Cracker__sort (c : Crk) (a b : Nat) (hl : c.rows.length = c.vals.length) (hab : a ≤ b) (hb : b ≤ c.vals.length) (h64 : c.vals.length ≤ 64) : EFn Tryz.prog 161 [.c (.bp 0 0), .c (.sc (.int .i64 (a : Int))), .c (.sc (.int .i64 (b : Int)))] [.box (crkO 1 c), .row 3 1 (ints c.vals), .row 3 1 (ints c.rows), .row 151 2 (pairs c.piv)] (fun r S => r = .tup [] ∧ S = [.box (crkO 1 c), .row 3 1 (ints (segC c a b).vals), .row 3 1 (ints (segC c a b).rows), .row 151 2 (pairs c.piv)]) := by
 refine E_fn Tryz.func161 rfl (Nat.le_of_ble_eq_true rfl) ?_
 refine E_G (n:=4) rfl ?_
 have hz:=zipC_len hl
 refine G_seq ?_
 refine g_tidy_A70_2 [0,1,2] ?_
 refine G_region' (L:=[0,1,2,3,4,5,6]) rfl ?_
 refine xmv ?_
 refine p_ rfl (L_nilCheck rfl rfl rfl) ?_
 refine l_ rfl (L_load rfl (xb0 ty_49)) ?_
 refine xmv ?_
 refine xmv ?_
 refine x_call rfl rfl rfl rfl rfl ca_207 (c_impl_elements c a b ⟨by omega,by omega,by omega,hl,h64⟩) ?_
 rintro r S ⟨rfl,rfl⟩
 rw [show ((b:Int) - (a:Int)).toNat=b - a by omega,elems_seg hl _ (by omega)]
 obtain⟨l,hls⟩:∃ l,l=((zipC c).drop a).take (b - a):=⟨_,rfl⟩
 rw [← hls]
 have hll:l.length=b - a:=by rw [hls,List.length_take,List.length_drop];omega
 rw [← hll]
 refine xas ?_
 refine EOps_nil ?_
 refine G_seq ?_
 refine g_tidy_A70_2 [0,1,2,6] ?_
 refine G_region' (L:=[0,1]) rfl ?_
 refine xmv ?_
 refine x_frame [4] rfl rfl rfl rfl rfl ca_208 rfl (c_sortF l (by omega)) ?_
 rintro r S ⟨r0,S0,⟨rfl,rfl⟩,rfl,rfl⟩
 obtain⟨s,hse⟩:∃ s,s=sortE l:=⟨_,rfl⟩
 rw [← hse]
 have hsl:s.length=l.length:=by rw [hse,sortE_len]
 refine EOps_nil ?_
 refine G_seq ?_
 refine G_region' (L:=[0,1,2]) rfl ?_
 refine xmv ?_
 refine p_ rfl (l_len rfl sl_212) ?_
 refine xmv ?_
 refine EOps_nil ?_
 refine G_block ?_
 refine g_forD_A70_3 (α:=Nat) [0,1,2,6,17,18] (fun i=>[(19,.c (.sc (.int .i64 (i))))]) (fun i=>[.box (crkO 1 c),.row 3 1 (ints ((putP (zipC c) s a i).map (·.1))),.row 3 1 (ints ((putP (zipC c) s a i).map (·.2))),.row 151 2 (pairs c.piv),.row 216 2 (pairs s)]) (fun i=>i≤l.length) (fun i=>l.length - i) (0) ?_ (by rw [putP_zero,zipC_1 hl,zipC_2 hl]<;>rfl) ⟨.inr rfl,trivial⟩ ?_
 ·simp
 rintro i hi
 refine G_seq ?_
 refine G_region' (L:=[0]) rfl ?_
 refine p_ rfl (L_bin rfl rfl rfl rfl) ?_
 refine EOps_nil ?_
 refine G_seq ?_
 refine G_cond rfl (fun hc20=>?_) (fun hc20=>?_)
 ·have hi1 : i < l.length := by simp [pairs_len] at hc20; omega
  obtain⟨p,hp⟩:=at_lt (l:=s) (k:=i) (by omega)
  have hst:=putP_step (l:=zipC c) (a:=a) hp (by omega)
  have he:((a:Int)+(i:Int)).toNat=a+i:=by omega
  have hst1:(putP (zipC c) s a (i+1)).map (·.1)=((putP (zipC c) s a i).map (·.1)).set ((a:Int)+(i:Int)).toNat p.1:=by rw [hst,List.map_set,he]
  have hst2:(putP (zipC c) s a (i+1)).map (·.2)=((putP (zipC c) s a i).map (·.2)).set ((a:Int)+(i:Int)).toNat p.2:=by rw [hst,List.map_set,he]
  have hpl:=putP_len (l:=zipC c) (s:=s) (a:=a) (i:=i) (by omega) (by omega)
  have hV:((putP (zipC c) s a i).map (·.1)).length=c.vals.length:=by rw [List.length_map,hpl,hz]
  have hU:((putP (zipC c) s a i).map (·.2)).length=c.rows.length:=by rw [List.length_map,hpl,hz,hl]
  generalize (putP (zipC c) s a i).map (·.1)=V at *
  generalize (putP (zipC c) s a i).map (·.2)=U at *
  obtain⟨x0,hx0⟩:=at_lt (l:=V) (k:=((a:Int)+(i:Int)).toNat) (by omega)
  obtain⟨y0,hy0⟩:=at_lt (l:=U) (k:=((a:Int)+(i:Int)).toNat) (by omega)
  refine G_skip ?_
  refine G_seq ?_
  refine G_block ?_
  refine G_seq ?_
  refine G_region' (L:=[0,1,2,3,4,5]) rfl ?_
  refine xmv ?_
  refine p_ rfl (L_index rfl rfl (xii sl_212 ty_216)) ?_
  refine l_ rfl (L_load rfl (xb0 ty_216)) ?_
  refine x_alloc rfl rfl rfl rfl za_216 ?_
  refine xas ?_
  refine EOps_go rfl rfl (EOp_store rfl rfl rfl (xb1 ty_216) ?_)
  refine EOps_nil ?_
  refine G_drawB mixed ?_
  refine b_pure 0 rfl rfl rfl (L_move rfl) ?_
  refine b_pure 1 rfl rfl rfl (L_nilCheck rfl rfl rfl) ?_
  refine b_pure 2 rfl rfl rfl (l_field rfl fo_49_0) ?_
  refine b_load 3 rfl rfl rfl rfl rfl (d_bp ty_22) ?_
  refine b_pure 4 rfl rfl rfl (L_move rfl) ?_
  refine b_pure 5 rfl rfl rfl (L_move rfl) ?_
  refine b_pure 6 rfl rfl rfl xb2 ?_
  refine b_pure 7 rfl rfl rfl (L_move rfl) ?_
  refine b_pure 8 rfl rfl rfl (L_nilCheck rfl rfl rfl) ?_
  refine b_pure 9 rfl rfl rfl (l_field rfl fo_49_1) ?_
  refine b_load 10 rfl rfl rfl rfl rfl (d_bp ty_22) ?_
  refine b_pure 11 rfl rfl rfl (L_move rfl) ?_
  refine b_pure 12 rfl rfl rfl (L_move rfl) ?_
  refine b_pure 13 rfl rfl rfl xb2 ?_
  refine b_pure 14 rfl rfl rfl (l_field rfl fo_216_0) ?_
  refine b_load 15 rfl rfl rfl rfl rfl (d_bp ty_3) ?_
  refine b_pure 16 rfl rfl rfl (l_field rfl fo_216_1) ?_
  refine b_load 17 rfl rfl rfl rfl rfl (d_bp ty_3) ?_
  refine b_pure 18 rfl rfl rfl (L_index rfl rfl (xii sl_22 ty_3)) ?_
  refine B_one 19 ?_
  refine b_store 19 rfl rfl rfl rfl rfl rfl (s_ep ty_3) ?_
  refine b_pure 20 rfl rfl rfl (L_index rfl rfl (xii sl_22 ty_3)) ?_
  refine B_one 21 ?_
  refine b_store 21 rfl rfl rfl rfl rfl rfl (s_ep ty_3) ?_
  refine B_done (by kernel_rfl) ?_
  refine G_region' (L:=[0,1]) rfl ?_
  refine p_ rfl xb2 ?_
  refine xmv ?_
  refine EOps_nil ?_
  refine⟨[4],rfl,i+1,?_,?_,(by rw [hst1,hst2,← ints_set,← ints_set];simp only [Nat.zero_add];rfl),⟨.inr rfl,trivial⟩,⟨.inr rfl,.inr rfl,.inr rfl,.inr rfl,.inr rfl,.inr rfl,trivial⟩⟩
  ·first|omega|(dsimp only;omega)|(simp;omega)
  first|trivial|omega|(dsimp only;omega)|(simp;omega)
 have hend : putP (zipC c) s a i = segP (zipC c) a b := by
  have:¬ i<l.length:=by simp [pairs_len] at hc20;omega
  rw [hse,hls]
  exact putP_all hab (by omega) (by omega)
 refine G_exit ?_
 refine⟨_,[],rfl,rfl,rfl,?_⟩
 rw [hend];rfl

end Go.Proofs.YtlodlnbhjghjoaaGreat.E
