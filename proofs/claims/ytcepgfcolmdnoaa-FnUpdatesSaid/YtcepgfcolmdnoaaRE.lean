/- slices.Delete of one item of a row of one's own: as a contract over resources. -/
import Derived.Test.YtcepgfcolmdnoaaRD
import Derived.Test.YtcepgfcolmdnoaaRJ
import Derived.Test.YtcepgfcolmdnoaaRS
namespace Go.Proofs.Ytcepgfcolmdnoaa.E
open Go Go.RowKit Go.Lib
set_option linter.unusedVariables false
set_option linter.unusedSimpArgs false

theorem del_list (cur cells z : List Value) (k n c : Nat) (hk : k < n) (hc : n ≤ c) (hl : cur.length = c * 2) (ht : cur.take (n * 2) = cells) (hz : z.length = 2) :
  (E.splice (E.splice cur (k*2) (cells.drop ((k+1)*2))) ((n - 1)*2) z).take (n*2)=cells.take (k*2)++cells.drop ((k+1)*2)++z:=by
 have hcl:cells.length=n*2:=by rw [← ht,List.length_take,hl];omega
 have e2:(cells.drop ((k+1)*2)).length=(n - (k+1))*2:=by rw [List.length_drop,hcl];omega
 have hcq:∀ q,q<n*2→cells[q]? = cur[q]? := fun q hq=>by rw [← ht,List.getElem?_take,if_pos hq]
 apply List.ext_getElem?
 intro q
 rw [List.getElem?_take,getElem?_splice _ _ _ (by rw [length_splice _ _ _ (by rw [hl];omega),hl];omega),getElem?_splice _ _ _ (by rw [hl];omega),List.append_assoc,List.getElem?_append,List.getElem?_append,List.getElem?_take,List.getElem?_drop,List.length_take,hcl,hz,e2,Nat.min_eq_left (by omega)]
 by_cases h1:q<k*2
 ·rw [if_pos (show q<n*2 by omega),if_pos (show q<(n - 1)*2 by omega),if_pos h1,if_pos h1,if_pos h1,hcq q (by omega)]
 ·by_cases h2 : q < (n - 1) * 2
  ·rw [if_pos (show q<n*2 by omega),if_pos h2,if_neg h1,if_pos (show q<k*2+(n - (k+1))*2 by omega),if_neg h1,if_pos (show q - k*2<(n - (k+1))*2 by omega),List.getElem?_drop]
  ·by_cases h3 : q < n * 2
   ·rw [if_pos h3, if_neg h2, if_pos (show q < (n - 1) * 2 + 2 by omega), if_neg h1, if_neg (show ¬ q - k * 2 < (n - (k + 1)) * 2 by omega)]
    congr 1;omega
   ·rw [if_neg h3,if_neg h1,if_neg (show ¬ q - k*2<(n - (k+1))*2 by omega),List.getElem?_eq_none (by omega)]

theorem c_delete (xs : List (Int × Int)) (k : Nat) (hk : k < xs.length) :
  EFn Try.prog 112 [.c (.sl 0 0 xs.length xs.length), .c (.sc (.int .i64 (k : Int))), .c (.sc (.int .i64 ((k : Int) + 1)))] [.row 60 2 (pairs xs)]
   (fun r R'=>r = .c (.sl 0 0 (xs.length - 1) xs.length)∧R'=[.row 60 2 (pairs (xs.take k++xs.drop (k+1)++[(0,0)]))]):=by
 intro w W vals hv hs
 obtain⟨hvl,hva⟩:=hv
 obtain ⟨v0, v1, v2, rfl⟩ : ∃ v0 v1 v2, vals = [v0, v1, v2] := by
  match vals,hvl with
  | [a,b,c],_=>exact⟨a,b,c,rfl⟩
 have h0:=hva 0 _ v0 rfl rfl
 have h1:=hva 1 _ v1 rfl rfl
 have h2:=hva 2 _ v2 rfl rfl
 obtain⟨g,cap,cur,e1,e2,e3,e4,e5,e6,e7,e8⟩:=row_parts (i:=0) hs rfl (by omega)
 have hv0:=whole_val (i:=0) hs rfl rfl (by omega) h0
 have hv1:v1 = .int .i64 (k:Int):=AR.sc_inv h1
 have hv2:v2 = .int .i64 ((k:Int)+1):=AR.sc_inv h2
 rw [e1] at hv0
 subst hv0 hv1 hv2
 have hcl:(flat xs).length=xs.length*2:=flat_len xs
 have hcs : ∀ j v, (flat xs)[j]? = some v → w.cell? ⟨g, 0 + j, none⟩ = some v := fun j v hj => by
  rw [← e7,List.getElem?_take] at hj
  split at hj
  ·simp only [World.cell?,e3,Nat.zero_add];simpa using hj
  ·cases hj
 have hmax:cap≤9223372036854775807:=by unfold maxLen at e5;omega
 have hlen:(xs.take k++xs.drop (k+1)++[((0:Int),(0:Int))]).length=xs.length:=by simp;omega
 have hflat:flat (xs.take k++xs.drop (k+1)++[((0:Int),(0:Int))])=(flat xs).take (k*2)++(flat xs).drop ((k+1)*2)++[.int .i64 0,.int .i64 0]:=by rw [flat_app,flat_app,flat_take,flat_drop];rfl
 have hc:=RD.delete_one g xs.length cap k (flat xs) w hk e4 hmax hcl hcs (fun j hj=>by simp [World.frozen?,e3]) (flat_one _)
 refine hc.mono ?_
 rintro e w' ⟨rfl,rfl⟩
 have hA:w.drew.heap[g]? = some (.cells cur 60 (0,0)):=e3
 obtain⟨a1,s1,s2,s3,s4,s5,s6,s7,s8⟩:=setCells_heap ((flat xs).drop ((k+1)*2)) (k*2) _ cur hA (by rw [List.length_drop,hcl,e6];omega)
 obtain⟨a2,t1,t2,t3,t4,t5,t6,t7,t8⟩:=setCells_heap [.int .i64 0,.int .i64 0] ((xs.length - 1)*2) _ a1 s1 (by rw [s3,e6];simp;omega)
 have hsz:((w.drew.setCells g (k*2) ((flat xs).drop ((k+1)*2))).setCells g ((xs.length - 1)*2) [.int .i64 0,.int .i64 0]).heap.size=w.heap.size:=t5.trans s5
 have hown : ((w.drew.setCells g (k * 2) ((flat xs).drop ((k + 1) * 2))).setCells g ((xs.length - 1) * 2) [.int .i64 0, .int .i64 0]).ownsRow 0 60 2 (W.hs 0) (pairs (xs.take k ++ xs.drop (k + 1) ++ [((0 : Int), (0 : Int))])).length (flat (xs.take k ++ xs.drop (k + 1) ++ [((0 : Int), (0 : Int))])) := by
  refine⟨by rw [flat_len,pairs_len],.inr ⟨g,cap,a2,by rw [pairs_len,hlen,e1],Nat.zero_le _,t1,by rw [pairs_len,hlen];exact e4,e5,by rw [t3,s3,e6],?_⟩⟩
  rw [pairs_len,hlen,hflat,t2,s2]
  exact del_list cur.toList (flat xs) _ k xs.length cap hk e4 (by simpa using e6) e7 rfl
 obtain ⟨W', m1, m2⟩ := Sep.rerow (w' := ((w.drew.setCells g (k * 2) ((flat xs).drop ((k + 1) * 2))).setCells g ((xs.length - 1) * 2) [.int .i64 0, .int .i64 0])) (i := 0) (e := 60) (k := 2) (rows := pairs xs) (rows' := pairs (xs.take k ++ xs.drop (k + 1) ++ [((0 : Int), (0 : Int))])) hs rfl (t6.trans s6) (t7.trans s7) (t8.trans s8) (by omega)
  (fun c hc hc2 => by
   have hcg:c ≠ g:=fun e=>hc2 (by rw [e1,e];rfl)
   rw [t4 c hcg,s4 c hcg];rfl) hown (fun r hr=>(pairs_row _ r hr).1) (pairs_ow _ _) (by rw [pairs_len,pairs_len,hlen])
 have hh : W'.hs 0 = W.hs 0 := by
  have:=m1.goes 0
  simp only [List.set_cons_zero,List.getElem?_cons_zero] at this
  exact this.2.2.2 (by rw [pairs_len,pairs_len,hlen])
 refine⟨_,_,W',⟨rfl,rfl⟩,⟨_,rfl,AR.sl rfl (by simp) (fun e' k' rows' hr=>?_) .nil⟩,m2,m1⟩
 cases hr
 refine⟨Nat.le_of_eq (by rw [pairs_len,hlen]),fun _=>?_⟩
 rw [hh,e1]
 exact⟨some ⟨g,0,none⟩,xs.length,cap,rfl,by omega,.inl (by simp)⟩
end Go.Proofs.Ytcepgfcolmdnoaa.E
