/- slices.SortFunc at pairs, a row of one's own: as a contract over resources. -/
import Derived.Test.YtcepgfcolmdnoaaRU1
import Derived.Test.YtcepgfcolmdnoaaRS
import Derived.Test.YtcepgfcolmdnoaaRJ
namespace Go.Proofs.Ytcepgfcolmdnoaa.E
open Go Go.RowKit Go.Lib Go.Sort
set_option linter.unusedVariables false
set_option linter.unusedSimpArgs false

def encP (p:Int × Int):List Value:=[.int .i64 p.1,.int .i64 p.2]
def cmpC (x y:Int × Int):Int:=if compareInt x.1 y.1 ≠ 0 then compareInt x.1 y.1 else compareInt x.2 y.2
theorem cmpC_neg (x y : Int × Int) : ltOf cmpC x y = true ↔ (x.1 < y.1 ∨ (x.1 = y.1 ∧ x.2 < y.2)) := by
 have e : ∀ a b : Int, (compareInt a b < 0 ↔ a < b) ∧ (compareInt a b ≠ 0 ↔ a ≠ b) := fun a b => by
  unfold compareInt
  by_cases h1:a<b
  ·rw [if_pos h1];omega
  rw [if_neg h1]
  by_cases h2:a > b
  ·rw [if_pos h2];omega
  rw [if_neg h2];omega
 obtain⟨e1,e2⟩:=e x.1 y.1
 obtain⟨e3,e4⟩:=e x.2 y.2
 have hlt:ltOf cmpC x y=true↔cmpC x y<0:=by simp [ltOf]
 rw [hlt]
 unfold cmpC
 by_cases h:compareInt x.1 y.1 ≠ 0
 ·rw [if_pos h, e1]
  have:=e2.1 h
  omega
 rw [if_neg h, e3]
 have:x.1=y.1:=Classical.byContradiction fun hn=>h (e2.2 hn)
 omega
theorem cmpC_nneg (x y : Int × Int) : ltOf cmpC x y = false ↔ ¬ (x.1 < y.1 ∨ (x.1 = y.1 ∧ x.2 < y.2)) := by
 rw [← cmpC_neg];simp
def leP (x y:Int × Int):Prop:=x.1<y.1∨(x.1=y.1∧x.2≤y.2)
/-- Pairs in ascending order. -/
def sortE (xs:List (Int × Int)):List (Int × Int):=xs.mergeSort fun x y=>!(ltOf cmpC) y x
theorem sortE_perm (xs:List (Int × Int)):(sortE xs).Perm xs:=List.mergeSort_perm xs _
theorem sortE_len (xs:List (Int × Int)):(sortE xs).length=xs.length:=(sortE_perm xs).length_eq
theorem leE_iff (x y : Int × Int) : (!(ltOf cmpC) y x) = true ↔ leP x y := by
 rw [Bool.not_eq_true',cmpC_nneg,leP];omega
theorem sortE_pw (xs : List (Int × Int)) : List.Pairwise leP (sortE xs) := by
 have h := List.pairwise_mergeSort (le := fun x y => !(ltOf cmpC) y x) (by
  intro a b c h1 h2
  rw [leE_iff] at *
  unfold leP at *
  omega) (by
  intro a b
  rw [Bool.or_eq_true,leE_iff,leE_iff]
  unfold leP
  omega) xs
 exact h.imp (by intro a b hab;exact (leE_iff a b).1 hab)
theorem sortE_eq {xs ys : List (Int × Int)} (hp : ys.Perm xs) (hs : List.Pairwise leP ys) : ys = sortE xs :=
 List.Perm.eq_of_pairwise (le:=leP) (fun a b _ _ h1 h2=>by unfold leP at *;ext<;>omega) hs (sortE_pw xs) (hp.trans (sortE_perm xs).symm)

theorem flat_get : ∀ (xs : List (Int × Int)) (t : Nat), t < xs.length * 2 → (flat xs)[t]? = some ((encP (xs.getD (t / 2) (0, 0)))[t % 2]!)
 | [],t,h=>by simp at h
 | p::xs,0,_=>rfl
 | p::xs,1,_=>rfl
 | p :: xs, t + 2, h => by
  have h1:=flat_get xs t (by simp at h;omega)
  have e1:(t+2) / 2=t / 2+1:=by omega
  have e2:(t+2) % 2=t % 2:=by omega
  rw [e1,e2]
  have e3:(flat (p::xs))[t+2]? = (flat xs)[t]? := rfl
  rw [e3,h1]
  rfl
theorem flatK_list (xs : List (Int × Int)) : (flatK encP 2 xs.toArray).toList = flat xs := by
 apply List.ext_getElem?
 intro t
 have hs:(flatK encP 2 xs.toArray).size=xs.length*2:=by rw [size_flatK];simp
 rcases Nat.lt_or_ge t (xs.length*2) with h|h
 ·rw [flat_get xs t h, Array.getElem?_toList, Array.getElem?_eq_getElem (by omega)]
  have h1:=get_flatK encP 2 xs.toArray t (by simpa using h)
  rw [getElem!_pos _ t (by omega)] at h1
  rw [h1]
  have h2 : xs.toArray[t / 2]! = xs.getD (t / 2) (0, 0) := by
   rw [List.getElem!_toArray,List.getD_eq_getElem?_getD,getElem!_def]
   cases xs[t / 2]? <;> rfl
  rw [h2]
 rw [List.getElem?_eq_none (by rw [Array.length_toList];omega),List.getElem?_eq_none (by rw [flat_len];omega)]

theorem heap_put {w : World} {g n : Nat} {os : Array Obj} {cur : Array Value} {e : TypeId} {fr : Nat × Nat} (F : Array Value) (hb : w.heap[g]? = some (.cells cur e fr)) :
  (grow (putRow id (Sort.ahead w n) g 0 F) os).heap[g]? = some (.cells (putCells id 0 F cur) e fr):=by
 have hg:g<w.heap.size:=(Array.getElem?_eq_some_iff.1 hb).1
 rw [heap_grow_old _ _ (by simpa using hg)]
 simp [putRow,mapBlock,Sort.ahead,Array.getElem?_modify,hb,onCells]
theorem grownBy_put {w : World} {g n : Nat} {os : Array Obj} (F : Array Value) : w.grownBy (grow (putRow id (Sort.ahead w n) g 0 F) os) (some g) := by
 refine⟨rfl,rfl,rfl,by simp,fun k hk hne=>?_⟩
 rw [heap_grow_old _ _ (by simpa using hk)]
 have:g ≠ k:=fun e=>hne (by rw [e])
 simp [putRow,mapBlock,Sort.ahead,Array.getElem?_modify,this]
theorem take_put (cur F : Array Value) (h : F.size ≤ cur.size) : (putCells id 0 F cur).toList.take F.size = F.toList := by
 apply List.ext_getElem?
 intro j
 by_cases hj:j<F.size
 ·rw [List.getElem?_take_of_lt hj, Array.getElem?_toList]
  simp [putCells,hj,show j<cur.size by omega]
 rw [List.getElem?_take_eq_none (by omega),List.getElem?_eq_none (by simp;omega)]
theorem holds_put {w : World} {g : Nat} {cur F : Array Value} {e : TypeId} (hb : w.heap[g]? = some (.cells cur e (0, 0))) (ht : cur.toList.take F.size = F.toList) : Holds id w g 0 F := by
 intro j hj
 refine⟨?_,by simp [World.frozen?,hb]⟩
 have h1:(cur.toList.take F.size)[j]? = F.toList[j]? := by rw [ht]
 rw [List.getElem?_take_of_lt hj] at h1
 simp only [World.cell?,hb,Nat.zero_add]
 simp only [Option.isSome_none,Bool.false_eq_true,if_false]
 rw [← Array.getElem?_toList,h1]
 simp [hj]

theorem c_sortF (xs : List (Int × Int)) (hl : xs.length ≤ 1048576) :
  EFn Try.prog 187 [.c (.sl 0 0 xs.length xs.length),.c (.fn 188 [])] [.row 173 2 (pairs xs)] (fun r R'=>r = .tup []∧R'=[.row 173 2 (pairs (sortE xs))]):=by
 intro w W vals hv hs
 obtain⟨hvl,hva⟩:=hv
 obtain ⟨v0, v1, rfl⟩ : ∃ v0 v1, vals = [v0, v1] := by
  match vals,hvl with
  | [a,b],_=>exact⟨a,b,rfl⟩
 have h0:=hva 0 _ v0 rfl rfl
 have h1:=hva 1 _ v1 rfl rfl
 obtain⟨ws,hw1,hw2⟩:=AR.fn_inv (W:=W) (R:=[.row 173 2 (pairs xs)]) (w:=w) h1
 obtain rfl:ws=[]:=by cases hw2;rfl
 subst hw1
 have h0':AR W [.row 173 2 (pairs xs)] w [.sl 0 0 xs.length xs.length] [v0]:=h0
 have hsl : slAt (W.hs 0) v0 2 0 xs.length := by
  cases h0' with
  | sl _ _ h3 _=>exact (h3 _ _ _ rfl).2 (pairs_len xs)
 obtain⟨a,n,c,k1,k2,k3⟩:=hsl
 have k3 : v0 = .slice (a.map fun b => ⟨b.block, 0 * 2, none⟩) xs.length (c - 0) := by
  rcases k3 with k3|⟨_,h00,_⟩
  ·exact k3
  omega
 rcases Nat.eq_zero_or_pos xs.length with hz|hp
 ·obtain rfl : xs = [] := List.length_eq_zero_iff.1 hz
  rw [k3]
  refine (Try.slices_SortFunc_none (α:=Int) _ _ _ w).mono ?_
  rintro e w' ⟨rfl,rfl⟩
  exact⟨_,_,W,⟨rfl,rfl⟩,⟨_,rfl,⟨[],rfl,rfl,fun i x u hx _=>by simp at hx⟩⟩,by simpa [sortE] using hs,by simpa [sortE] using Trans.refl _ W _⟩
 obtain ⟨g, cap, cur, e1, _, e2, e3, e4, e5, e6, _⟩ := row_parts (i := 0) hs rfl hp
 have hv0 : v0 = .slice (some ⟨g, 0, none⟩) xs.length cap := by
  rw [k3]
  rw [e1] at k1
  cases k1
  simp
 subst hv0
 have hg:g<w.heap.size:=(Array.getElem?_eq_some_iff.1 e2).1
 have hFs:∀ ys:List (Int × Int),(flatK encP 2 ys.toArray).size=ys.length*2:=fun ys=>by rw [size_flatK];simp
 have hcmp:CmpLays Try.prog 188 #[] encP 2 cmpC g 0 xs.toArray.size w:=fun m os dk _ x y=>RU.compare_calls x y _
 have hH:HoldsK encP 2 w g 0 xs.toArray:=holds_put e2 (by rw [hFs,flatK_list];exact e6)
 have hO:SWO (ltOf cmpC):=⟨fun x=>by rw [cmpC_nneg];omega,fun x y z h1 h2=>by rw [cmpC_neg] at *;omega,fun x y z h1 h2=>by rw [cmpC_nneg] at *;omega⟩
 have hT:∀ x y:Int × Int,(ltOf cmpC) x y=false→(ltOf cmpC) y x=false→x=y:=fun x y h1 h2=>by rw [cmpC_nneg] at *;ext<;>omega
 have hsz:xs.toArray.size=xs.length:=by simp
 have hc := Try.slices_SortFunc_total 2 (fun w => run_isAgg_ ty_173 w) (fun w => run_sizeOf_ ty_173 w) encP (fun _ => rfl) (fun x v hv => by
  rcases List.mem_cons.1 hv with rfl|hv
  ·rfl
  rcases List.mem_cons.1 hv with rfl | hv
  ·rfl
  cases hv) cmpC hO 188 #[] g 0 cap xs.toArray w (fun args w=>run_callFunc ca_188 args w) hcmp hH hg (by rw [hsz];omega) hT
 rw [hsz] at hc
 refine hc.mono ?_
 rintro e w' ⟨rfl,nn,os,rfl⟩
 have hsE:(xs.toArray.toList.mergeSort fun x y=>!(ltOf cmpC) y x)=sortE xs:=by simp [sortE]
 rw [hsE]
 have hgb:=grownBy_put (w:=w) (g:=g) (n:=nn) (os:=os) (flatK encP 2 (sortE xs).toArray)
 have hb':=heap_put (n:=nn) (os:=os) (flatK encP 2 (sortE xs).toArray) e2
 have hln:(pairs (sortE xs)).length=xs.length:=by rw [pairs_len,sortE_len]
 have hle:xs.length*2≤cap*2:=Nat.mul_le_mul_right 2 e3
 have hown : (sortWorldK encP 2 w g 0 nn (sortE xs).toArray os).ownsRow 0 173 2 (W.hs 0) (pairs (sortE xs)).length (flat (sortE xs)) := by
  refine⟨by rw [flat_len,hln,sortE_len],.inr ⟨g,cap,putCells id 0 (flatK encP 2 (sortE xs).toArray) cur,by rw [hln,e1],Nat.zero_le _,hb',by rw [hln];exact e3,e4,by simp [putCells,e5],?_⟩⟩
  have:=take_put cur (flatK encP 2 (sortE xs).toArray) (by rw [hFs,sortE_len];omega)
  rw [hFs,flatK_list,sortE_len] at this
  rw [hln];exact this
 obtain ⟨W', m1, m2⟩ := Sep.rerow (w' := sortWorldK encP 2 w g 0 nn (sortE xs).toArray os) (i := 0) (e := 173) (k := 2) (rows := pairs xs) (rows' := pairs (sortE xs)) hs rfl hgb.os hgb.tape hgb.output hgb.size
  (fun c hc1 hc2=>hgb.block c hc1 (fun e=>hc2 (by rw [e1];exact e.symm))) hown (fun r hr=>(pairs_row _ r hr).1) (pairs_ow _ _) (by rw [hln,pairs_len])
 exact⟨_,_,W',⟨rfl,rfl⟩,⟨_,rfl,⟨[],rfl,rfl,fun i x u hx _=>by simp at hx⟩⟩,m2,m1⟩
end Go.Proofs.Ytcepgfcolmdnoaa.E
