/- Walks through functions, by program out of the session's annotations. -/
import Derived.Test.YtcepgfcolmdnoaaA174
namespace Go.Proofs.Ytcepgfcolmdnoaa.E
open Go Go.RowKit Go.Proofs
set_option linter.unusedVariables false
set_option linter.unusedSimpArgs false

theorem elems_zip {c : Crk} {a : Nat} (h : c.rows.length = c.vals.length) : ∀ n, a + n ≤ c.vals.length → elemsN c a n = ((List.zip c.vals c.rows).drop a).take n
 | 0,_=>by simp [elemsN]
 | n + 1, hn => by
  have hz:(List.zip c.vals c.rows).length=c.vals.length:=by simp [h]
  rw [elemsN,elems_zip h n (by omega),List.take_succ_eq_append_getElem (by rw [List.length_drop];omega),List.getElem_drop]
  congr 1
  have h1:a+n<c.vals.length:=by omega
  have h2:a+n<c.rows.length:=by omega
  have e:((a:Int)+(n:Int)).toNat=a+n:=by omega
  simp only [elI,e,List.getElem_zip]
  rw [getD_at h1,getD_at h2]
theorem mem_mtI {x p : Int × Int} {b : List (Int × Int)} : ∀ j, j ≤ b.length → (p ∈ mtI x b j ↔ ∃ y ∈ b.take j, x.1 = y.1 ∧ p = (x.2, y.2))
 | 0,_=>by simp [mtI]
 | j + 1, hj => by
  have ih:=mem_mtI (x:=x) (p:=p) (b:=b) j (by omega)
  obtain⟨y,hy⟩:=at_lt (l:=b) (k:=j) (by omega)
  rw [mtI_at hy,take_snoc hy]
  split
  ·rename_i h
   rw [List.mem_append,ih,List.mem_singleton]
   constructor
   ·rintro (⟨z, h1, h2⟩ | h1)
    ·exact⟨z,List.mem_append_left _ h1,h2⟩
    exact⟨y,List.mem_append_right _ (List.mem_singleton.2 rfl),h,h1⟩
   rintro ⟨z, h1, h2, h3⟩
   rcases List.mem_append.1 h1 with h4|h4
   ·exact .inl ⟨z,h4,h2,h3⟩
   obtain rfl:=List.mem_singleton.1 h4;exact .inr h3
  rename_i h
  rw [ih]
  constructor
  ·rintro⟨z,h1,h2⟩;exact⟨z,List.mem_append_left _ h1,h2⟩
  rintro ⟨z, h1, h2, h3⟩
  rcases List.mem_append.1 h1 with h4|h4
  ·exact⟨z,h4,h2,h3⟩
  obtain rfl:=List.mem_singleton.1 h4;exact absurd h2 h
theorem mem_mtO {a b : List (Int × Int)} {p : Int × Int} : ∀ i, i ≤ a.length → (p ∈ mtO a b i ↔ ∃ x ∈ a.take i, ∃ y ∈ b, x.1 = y.1 ∧ p = (x.2, y.2))
 | 0,_=>by simp [mtO]
 | i + 1, hi => by
  have ih:=mem_mtO (a:=a) (b:=b) (p:=p) i (by omega)
  obtain⟨x,hx⟩:=at_lt (l:=a) (k:=i) (by omega)
  rw [mtO_at hx,take_snoc hx,List.mem_append,ih,mem_mtI _ (Nat.le_refl _),List.take_length]
  constructor
  ·rintro (⟨z, h1, h2⟩ | h1)
   ·exact⟨z,List.mem_append_left _ h1,h2⟩
   exact⟨x,List.mem_append_right _ (List.mem_singleton.2 rfl),h1⟩
  rintro ⟨z, h1, h2⟩
  rcases List.mem_append.1 h1 with h4|h4
  ·exact .inl ⟨z,h4,h2⟩
  obtain rfl:=List.mem_singleton.1 h4;exact .inr h2
theorem nd_mtI {x : Int × Int} {b : List (Int × Int)} (hb : (b.map (·.2)).Nodup) : ∀ j, j ≤ b.length → (mtI x b j).Nodup
 | 0,_=>List.nodup_nil
 | j + 1, hj => by
  have ih:=nd_mtI (x:=x) hb j (by omega)
  obtain⟨y,hy⟩:=at_lt (l:=b) (k:=j) (by omega)
  rw [mtI_at hy]
  split
  ·refine List.nodup_append.2 ⟨ih, by simp, fun p hp q hq e => ?_⟩
   obtain rfl:=List.mem_singleton.1 hq
   subst e
   obtain⟨z,h1,_,h3⟩:=(mem_mtI j (by omega)).1 hp
   have h4:(b.map (·.2))[j]? = some y.2:=by simp [hy]
   refine nd_take hb h4 ?_
   have h7 : y.2 = z.2 := by
    have h8:=congrArg Prod.snd h3
    exact h8
   rw [← List.map_take,h7]
   exact List.mem_map_of_mem h1
  exact ih
theorem nd_mtO {a b : List (Int × Int)} (ha : (a.map (·.2)).Nodup) (hb : (b.map (·.2)).Nodup) : ∀ i, i ≤ a.length → (mtO a b i).Nodup
 | 0,_=>List.nodup_nil
 | i + 1, hi => by
  have ih:=nd_mtO ha hb i (by omega)
  obtain⟨x,hx⟩:=at_lt (l:=a) (k:=i) (by omega)
  rw [mtO_at hx]
  refine List.nodup_append.2 ⟨ih,nd_mtI hb _ (Nat.le_refl _),fun p hp q hq e=>?_⟩
  subst e
  obtain⟨z,h1,_,_,_,h3⟩:=(mem_mtO i (by omega)).1 hp
  obtain⟨_,_,_,h4⟩:=(mem_mtI _ (Nat.le_refl _)).1 hq
  have h5:(a.map (·.2))[i]? = some x.2:=by simp [hx]
  refine nd_take ha h5 ?_
  have h6 : x.2 = z.2 := by
   rw [h3] at h4
   have h8:=congrArg Prod.fst h4
   exact h8.symm
  rw [← List.map_take,h6]
  exact List.mem_map_of_mem h1
theorem mem_lpI {v w : Int} {b : Crk} (hl : b.rows.length = b.vals.length) : ∀ j, j ≤ b.vals.length → (w ∈ lpI v b j ↔ ∃ k, k < j ∧ b.vals[k]? = some v ∧ b.rows[k]? = some w)
 | 0,_=>by simp [lpI]
 | j + 1, hj => by
  have ih:=mem_lpI (v:=v) (w:=w) hl j (by omega)
  obtain⟨x,hx⟩:=at_lt (l:=b.vals) (k:=j) (by omega)
  obtain⟨y,hy⟩:=at_lt (l:=b.rows) (k:=j) (by omega)
  rw [lpI_at hx hy]
  split
  ·rename_i h
   rw [List.mem_append,ih,List.mem_singleton]
   constructor
   ·rintro (⟨k, h1, h2⟩ | h1)
    ·exact⟨k,by omega,h2⟩
    exact⟨j,by omega,by rw [hx,h],by rw [hy,h1]⟩
   rintro ⟨k, h1, h2, h3⟩
   rcases Nat.lt_or_ge k j with h4|h4
   ·exact .inl ⟨k,h4,h2,h3⟩
   obtain rfl : k = j := by omega
   rw [hy] at h3;exact .inr (Option.some.inj h3).symm
  rename_i h
  rw [ih]
  constructor
  ·rintro⟨k,h1,h2⟩;exact⟨k,by omega,h2⟩
  rintro ⟨k, h1, h2, h3⟩
  rcases Nat.lt_or_ge k j with h4|h4
  ·exact⟨k,h4,h2,h3⟩
  obtain rfl : k = j := by omega
  rw [hx] at h2;exact absurd (Option.some.inj h2) h
theorem nd_lpI {v : Int} {b : Crk} (hl : b.rows.length = b.vals.length) (hb : b.rows.Nodup) : ∀ j, j ≤ b.vals.length → (lpI v b j).Nodup
 | 0,_=>List.nodup_nil
 | j + 1, hj => by
  have ih:=nd_lpI (v:=v) hl hb j (by omega)
  obtain⟨x,hx⟩:=at_lt (l:=b.vals) (k:=j) (by omega)
  obtain⟨y,hy⟩:=at_lt (l:=b.rows) (k:=j) (by omega)
  rw [lpI_at hx hy]
  split
  ·refine List.nodup_append.2 ⟨ih, by simp, fun p hp q hq e => ?_⟩
   obtain rfl:=List.mem_singleton.1 hq
   subst e
   obtain⟨k,h1,_,h3⟩:=(mem_lpI hl j (by omega)).1 hp
   refine nd_take hb hy ?_
   exact List.mem_of_getElem? (i:=k) (by rw [List.getElem?_take,if_pos h1];exact h3)
  exact ih
def ltS (x y:Int × Int):Prop:=x.1<y.1∨(x.1=y.1∧x.2<y.2)
theorem mem_lpS {a b : Crk} {r p : Int × Int} : ∀ i, p ∈ lpS a b r i ↔ ∃ m : Nat, m < i ∧ lpW a r m = true ∧ p.1 = m ∧ p.2 ∈ lpR a b m
 | 0=>by simp [lpS]
 | i + 1 => by
  have ih:=mem_lpS (a:=a) (b:=b) (r:=r) (p:=p) i
  have hN : p ∈ lpN i (lpR a b i) (lpR a b i).length ↔ p.1 = i ∧ p.2 ∈ lpR a b i := by
   rw [lpN,List.take_length,List.mem_map]
   constructor
   ·rintro⟨w,h1,rfl⟩;exact⟨rfl,h1⟩
   rintro⟨h1,h2⟩;exact⟨p.2,h2,by rw [← h1]⟩
  rw [lpS]
  split
  ·rename_i h
   rw [List.mem_append,ih,hN]
   constructor
   ·rintro (⟨m, h1, h2⟩ | ⟨h1, h2⟩)
    ·exact⟨m,by omega,h2⟩
    exact⟨i,by omega,h,h1,h2⟩
   rintro ⟨m, h1, h2, h3, h4⟩
   rcases Nat.lt_or_ge m i with h5|h5
   ·exact .inl ⟨m,h5,h2,h3,h4⟩
   obtain rfl : m = i := by omega
   exact .inr ⟨h3,h4⟩
  rename_i h
  rw [ih]
  constructor
  ·rintro⟨m,h1,h2⟩;exact⟨m,by omega,h2⟩
  rintro ⟨m, h1, h2, h3⟩
  rcases Nat.lt_or_ge m i with h5|h5
  ·exact⟨m,h5,h2,h3⟩
  obtain rfl : m = i := by omega
  exact absurd h2 h
theorem pw_lpS {a b : Crk} {r : Int × Int} (hl : b.rows.length = b.vals.length) (hb : b.rows.Nodup) : ∀ i, List.Pairwise ltS (lpS a b r i)
 | 0=>List.Pairwise.nil
 | i + 1 => by
  have ih:=pw_lpS (a:=a) (r:=r) hl hb i
  rw [lpS]
  split
  ·refine List.pairwise_append.2 ⟨ih, ?_, fun p hp q hq => ?_⟩
   ·rw [lpN, List.take_length, List.pairwise_map]
    have h1:(lpR a b i).Nodup:=((sortI_perm _).nodup_iff).2 (nd_lpI hl hb _ (Nat.le_refl _))
    have h2:List.Pairwise (fun x y:Int=>x≤y) (lpR a b i):=sortI_pw _
    exact (h2.and h1).imp fun h=>.inr ⟨rfl,by have:=h.1;have:=h.2;omega⟩
   obtain ⟨m, h1, _, h3, _⟩ := (mem_lpS i).1 hp
   rw [lpN,List.take_length,List.mem_map] at hq
   obtain⟨w,_,rfl⟩:=hq
   exact .inl (by rw [h3];dsimp only;omega)
  exact ih
/-- Both ways of joining tell the same pairs. -/
theorem join_eq {q s : Crk} {r : Int × Int} {u w u' w' : Nat} (hq : CrkOk q) (hs : CrkOk s) (h1 : u ≤ w ∧ w ≤ q.vals.length) (h2 : u' ≤ w' ∧ w' ≤ s.vals.length) (hin : ∀ i, u ≤ i → i < w → inR r (q.vals.getD i 0) = true) : lpS (partCr q u w) (partCr s u' w') r 1000 = matL (elemsN q u (w - u)) (elemsN s u' (w' - u')) := by
 rw [elems_zip hq.rl _ (by omega),elems_zip hs.rl _ (by omega)]
 have hz:(List.zip q.vals q.rows).length=q.vals.length:=by simp [hq.rl]
 have hz':(List.zip s.vals s.rows).length=s.vals.length:=by simp [hs.rl]
 have er : ∀ {c : Crk} {x y : Nat}, c.rows.length = c.vals.length → (((List.zip c.vals c.rows).drop x).take (y - x)).map (·.2) = (partCr c x y).rows ∧ (((List.zip c.vals c.rows).drop x).take (y - x)).map (·.1) = (partCr c x y).vals := by
  intro c x y hc
  rw [List.map_take,List.map_drop,List.map_take,List.map_drop,List.map_snd_zip (by omega),List.map_fst_zip (by omega)]
  exact⟨rfl,rfl⟩
 obtain⟨ea,ea1⟩:=er (x:=u) (y:=w) hq.rl
 obtain⟨eb,eb1⟩:=er (x:=u') (y:=w') hs.rl
 have nq:((List.zip q.vals q.rows).map (·.2)).Nodup:=hq.z.nd
 have ns:((List.zip s.vals s.rows).map (·.2)).Nodup:=hs.z.nd
 have mq:∀ z ∈ ((List.zip q.vals q.rows).drop u).take (w - u),z ∈ List.zip q.vals q.rows:=fun z hzz=>List.mem_of_mem_drop (List.mem_of_mem_take hzz)
 have hel:∀ z ∈ ((List.zip q.vals q.rows).drop u).take (w - u),0≤z.2∧z.2≤999:=fun z hzz=>(hq.z.el z (mq z hzz)).2
 have hir : ∀ z ∈ ((List.zip q.vals q.rows).drop u).take (w - u), inR r z.1 = true := by
  intro z hzz
  obtain⟨k,hk⟩:=List.getElem?_of_mem hzz
  rw [List.getElem?_take] at hk
  split at hk
  ·rw [List.getElem?_drop, List.getElem?_zip_eq_some] at hk
   have:=hin (u+k) (by omega) (by omega)
   rwa [getD_of hk.1] at this
  cases hk
 have la:(partCr q u w).rows.length=(partCr q u w).vals.length:=by rw [← ea,← ea1,List.length_map,List.length_map]
 have lb:(partCr s u' w').rows.length=(partCr s u' w').vals.length:=by rw [← eb,← eb1,List.length_map,List.length_map]
 have na : (((List.zip q.vals q.rows).drop u).take (w - u)).map (·.2) |>.Nodup := by
  rw [List.map_take,List.map_drop]
  exact (nq.sublist (List.drop_sublist _ _)).sublist (List.take_sublist _ _)
 have nb : (((List.zip s.vals s.rows).drop u').take (w' - u')).map (·.2) |>.Nodup := by
  rw [List.map_take,List.map_drop]
  exact (ns.sublist (List.drop_sublist _ _)).sublist (List.take_sublist _ _)
 generalize ((List.zip q.vals q.rows).drop u).take (w - u)=A at *
 generalize ((List.zip s.vals s.rows).drop u').take (w' - u')=B at *
 generalize partCr q u w=a at *
 generalize partCr s u' w'=b at *
 have hpw:=pw_lpS (a:=a) (r:=r) lb (by rw [← eb];exact nb) 1000
 have hle:List.Pairwise leP (lpS a b r 1000):=hpw.imp fun h=>by unfold ltS at h;unfold leP;omega
 have hnd : (lpS a b r 1000).Nodup := hpw.imp fun h => by
  intro e
  subst e
  unfold ltS at h
  omega
 refine sortE_eq ?_ hle
 refine (List.perm_ext_iff_of_nodup hnd (nd_mtO na nb _ (Nat.le_refl _))).2 fun p=>?_
 rw [mem_lpS,mem_mtO _ (Nat.le_refl _),List.take_length]
 have atA:∀ {k:Nat} {x:Int × Int},A[k]? = some x→a.vals[k]? = some x.1∧a.rows[k]? = some x.2:=fun {k x} h=>by rw [← ea,← ea1,List.getElem?_map,List.getElem?_map,h];exact⟨rfl,rfl⟩
 have atB:∀ {k:Nat} {x:Int × Int},B[k]? = some x→b.vals[k]? = some x.1∧b.rows[k]? = some x.2:=fun {k x} h=>by rw [← eb,← eb1,List.getElem?_map,List.getElem?_map,h];exact⟨rfl,rfl⟩
 have lA:A.length=a.vals.length:=by rw [← ea1,List.length_map]
 have lB:B.length=b.vals.length:=by rw [← eb1,List.length_map]
 constructor
 ·rintro ⟨m, g1, g2, g3, g4⟩
  simp only [lpW,Bool.and_eq_true,decide_eq_true_eq] at g2
  have hm : (m : Int) ∈ a.rows := by
   by_cases hm:(m:Int) ∈ a.rows
   ·exact hm
   have:=rowIx_no hm;omega
  obtain⟨k,k1,k2⟩:=rowIx_mem hm
  have kl:k<A.length:=by rw [lA,← la];exact lt_of_at k2
  obtain⟨x,hx⟩:=at_lt kl
  obtain⟨x1,x2⟩:=atA hx
  rw [k2] at x2
  have g5:=(sortI_perm _).mem_iff.1 g4
  rw [k1,Int.toNat_natCast,getD_of x1] at g5
  obtain⟨j,j1,j2,j3⟩:=(mem_lpI lb _ (Nat.le_refl _)).1 g5
  obtain⟨y,hy⟩:=at_lt (l:=B) (k:=j) (by omega)
  obtain⟨y1,y2⟩:=atB hy
  rw [j2] at y1
  rw [j3] at y2
  refine⟨x,List.mem_of_getElem? hx,y,List.mem_of_getElem? hy,Option.some.inj y1,?_⟩
  have e1:=Option.some.inj x2
  have e2:=Option.some.inj y2
  ext
  ·rw [g3,e1]
  exact e2
 rintro ⟨x, hx, y, hy, h3, rfl⟩
 have hx9:=hel x hx
 have hxr:=hir x hx
 obtain⟨k,hk⟩:=List.getElem?_of_mem hx
 obtain⟨j,hj⟩:=List.getElem?_of_mem hy
 obtain⟨x1,x2⟩:=atA hk
 obtain⟨y1,y2⟩:=atB hj
 have hxm:(x.2.toNat:Int)=x.2:=Int.toNat_of_nonneg hx9.1
 obtain⟨k',k1,k2⟩:=rowIx_mem (List.mem_of_getElem? x2)
 have hkk : k' = k := by
  have hrn:a.rows.Nodup:=by rw [← ea];exact na
  have l1:=lt_of_at k2
  have l2:=lt_of_at x2
  rw [List.getElem?_eq_getElem l1] at k2
  rw [List.getElem?_eq_getElem l2] at x2
  exact (List.getElem_inj hrn).1 ((Option.some.inj k2).trans (Option.some.inj x2).symm)
 subst hkk
 refine⟨x.2.toNat,by omega,?_,hxm.symm,?_⟩
 ·rw [lpW,hxm,k1,Int.toNat_natCast,getD_of x1,hxr,decide_eq_true (by omega)];rfl
 rw [lpR, hxm, k1, Int.toNat_natCast, getD_of x1]
 refine (sortI_perm _).mem_iff.2 ((mem_lpI lb _ (Nat.le_refl _)).2 ⟨j,by rw [← lB];exact lt_of_at hj,?_,y2⟩)
 rw [y1,h3]

end Go.Proofs.Ytcepgfcolmdnoaa.E
