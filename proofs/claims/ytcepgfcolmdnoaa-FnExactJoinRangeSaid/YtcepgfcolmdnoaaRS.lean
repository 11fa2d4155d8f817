/- slices.Sort at integers, a row of one's own: as a contract over resources. -/
import Derived.Shelf.Sort.Plain
import Derived.Ground.Names2Prog
import Derived.Shelf.Slices.In.SortNone
import Derived.Ground.SlgnProg
import Derived.Test.YtcepgfcolmdnoaaProg
import Derived.Test.YtcepgfcolmdnoaaF3
import Derived.Sort.OwnSortedInts
namespace Go.Proofs.Ytcepgfcolmdnoaa.E
open Go Go.RowKit Go.Lib Go.Sort
set_option linter.unusedVariables false
set_option linter.unusedSimpArgs false

/-- A row of one's own is turned into another of the same length, where it lies. -/
theorem Sep.rerow {w w' : World} {W : Wit} {R : List Res} {i e k : Nat} {rows rows' : List (List T)} {cells' : List Value} (hs : Sep w W R) (hR : R[i]? = some (.row e k rows)) (ho : w'.os = w.os) (htp : w'.tape = w.tape) (hout : w'.output = w.output) (hsz : w.heap.size ≤ w'.heap.size)
  (hb:∀ c,c<w.heap.size→(W.hs i).ownBlock ≠ some c→w'.heap[c]? = w.heap[c]?) (hown:w'.ownsRow 0 e k (W.hs i) rows'.length cells') (hk:∀ r ∈ rows',r.length=k) (how:Ow w' rows'.flatten cells' (fun _=>False))
  (hlen:rows.length=rows'.length):∃ W',Trans w W R w' W' (R.set i (.row e k rows'))∧Sep w' W' (R.set i (.row e k rows')):=by
 have hi : i < R.length := by
  rcases Nat.lt_or_ge i R.length with h'|h'
  ·exact h'
  rw [List.getElem?_eq_none h'] at hR;cases hR
 obtain⟨f1,f2,cells,G,f3,f4,f5,f6⟩:=hs.res i _ hR
 let W':Wit:=⟨W.hs,fun j=>if j=i then (fun b=>(W.hs i).ownBlock=some b) else W.fs j⟩
 have wf:W'.fs i=fun b=>(W.hs i).ownBlock=some b:=by simp [W']
 have wf':∀ j,j ≠ i→W'.fs j=W.fs j:=fun j hj=>by simp [W',hj]
 have hblk:∀ c,c<w.heap.size → ¬ W.fs i c→w'.heap[c]? = w.heap[c]? := fun c hc1 hc2=>hb c hc1 fun e=>hc2 ((f6 c).2 (.inl e))
 have hvlt:∀ b,(W.hs i).ownBlock=some b→W.fs i b:=fun b hb'=>(f6 b).2 (.inl hb')
 have tr : Trans w W R w' W' (R.set i (.row e k rows')) := by
  refine⟨ho,htp,hout,hsz,fun c hc'=>hblk c hc'.1 (hc'.2 i),fun j c hj=>?_,fun j=>?_⟩
  ·by_cases e : j = i
   ·subst e
    rw [wf] at hj
    exact .inl ⟨_,hvlt c hj⟩
   rw [wf' j e] at hj;exact .inl ⟨j,hj⟩
  by_cases e' : i = j
  ·subst e'
   rw [List.getElem?_set_self hi,hR]
   exact⟨rfl,rfl,by omega,fun _=>rfl⟩
  rw [List.getElem?_set_ne e']
  exact Goes.refl _ _
 refine ⟨W', tr, hs.step tr i (fun j h1 _ => by simpa using h1) (fun j h1 _ => List.getElem?_set_ne (Ne.symm h1)) (fun _ _ => rfl) (fun j h1 b => by rw [wf' j h1]) (fun j h1 c hc' => hblk c (hs.lt j c hc') fun e => h1 (hs.apart j i c hc' e))
  (fun q hq=>?_) (fun b hb'=>?_) (fun b hb'=>?_) (fun h'=>absurd hi (by simp at h';omega)) (fun h'=>by rw [List.getElem?_set_self hi] at h';cases h')⟩
 ·rw [List.getElem?_set_self hi] at hq
  obtain rfl:=Option.some.inj hq
  rw [wf]
  exact⟨f1,hk,cells',fun _=>False,hown,how,fun b _ h=>h,fun b=>by simp [W']⟩
 ·rw [wf] at hb';exact .inl (hvlt b hb')
 rw [wf] at hb';exact (hown.lt b hb').2

/-- A list in ascending order. -/
def sortI (xs:List Int):List Int:=xs.mergeSort fun x y=>decide (x≤y)
theorem sortI_perm (xs:List Int):(sortI xs).Perm xs:=List.mergeSort_perm xs _
theorem sortI_len (xs:List Int):(sortI xs).length=xs.length:=(sortI_perm xs).length_eq

end Go.Proofs.Ytcepgfcolmdnoaa.E
