/- Walks through functions, by program out of the session's annotations. -/
import Derived.Test.YtcepgfcolmdnoaaA14
import Derived.Test.YtcepgfcolmdnoaaA52
import Derived.Test.YtcepgfcolmdnoaaRU
namespace Go.Proofs.Ytcepgfcolmdnoaa.E
open Go Go.RowKit Go.Proofs
set_option linter.unusedVariables false
set_option linter.unusedSimpArgs false

/-- The pairs of rows of elements with the same value. -/
def mtI (x : Int × Int) (b : List (Int × Int)) : Nat → List (Int × Int)
 | 0=>[]
 | j+1=>if x.1=(b.getD j (0,0)).1 then mtI x b j++[(x.2,(b.getD j (0,0)).2)] else mtI x b j
def mtO (a b : List (Int × Int)) : Nat → List (Int × Int)
 | 0=>[]
 | i+1=>mtO a b i++mtI (a.getD i (0,0)) b b.length
def matL (a b:List (Int × Int)):List (Int × Int):=sortE (mtO a b a.length)
theorem mtI_at {x y:Int × Int} {b:List (Int × Int)} {j:Nat} (hy:b[j]? = some y):mtI x b (j+1)=if x.1=y.1 then mtI x b j++[(x.2,y.2)] else mtI x b j:=by rw [mtI,getD_of hy]
theorem mtO_at {a b:List (Int × Int)} {i:Nat} {x:Int × Int} (hx:a[i]? = some x):mtO a b (i+1)=mtO a b i++mtI x b b.length:=by rw [mtO,getD_of hx]
theorem mtI_len (x : Int × Int) (b : List (Int × Int)) : ∀ j, (mtI x b j).length ≤ j
 | 0=>Nat.le_refl _
 | j + 1 => by
  have:=mtI_len x b j
  rw [mtI]
  split
  ·rw [List.length_append,List.length_singleton];omega
  omega
theorem mtO_len (a b : List (Int × Int)) : ∀ i, (mtO a b i).length ≤ i * b.length
 | 0=>by simp [mtO]
 | i + 1 => by
  have h1:=mtO_len a b i
  have h2:=mtI_len (a.getD i (0,0)) b b.length
  rw [mtO,List.length_append,Nat.add_mul]
  omega
theorem matL_len {a b : List (Int × Int)} (ha : a.length ≤ 64) (hb : b.length ≤ 64) : (matL a b).length ≤ 4096 := by
 have h1:=mtO_len a b a.length
 have h2:a.length*b.length≤64*64:=Nat.mul_le_mul ha hb
 rw [matL,sortE_len]
 omega

set_option maxRecDepth 20000 in
set_option maxHeartbeats 4000000 in
theorem c_impl_match (a b : List (Int × Int)) (ha : a.length ≤ 64) (hb : b.length ≤ 64) : EFn Try.prog 155 [.c (.ro (pairs a)), .c (.ro (pairs b))] [] (fun r S => r = .c (.sl 0 0 (matL a b).length (matL a b).length) ∧ S = [.row 173 2 (pairs (matL a b))]) := by
 refine E_fn Try.func155 rfl (Nat.le_of_ble_eq_true rfl) ?_
 refine E_G (n:=0) rfl ?_
 refine G_seq ?_
 refine G_region' (L:=[0]) rfl ?_
 refine xas ?_
 refine EOps_nil ?_
 refine G_seq ?_
 refine G_region' (L:=[0,1]) rfl ?_
 refine EOps_go rfl rfl (Heavy.op (H_bslice rfl rfl (by decide) sl_102 ty_173 za_173 ⟨rfl,by decide⟩ (by decide) rfl rfl rfl rfl ?_))
 refine xas ?_
 refine EOps_nil ?_
 refine G_seq ?_
 refine G_seq ?_
 refine G_region' (L:=[0,1,2]) rfl ?_
 refine xmv ?_
 refine p_ rfl (l_len rfl sl_169) ?_
 refine xmv ?_
 refine EOps_nil ?_
 refine G_block ?_
 refine g_forD (α:=Nat) [0,1,4,11,12] (fun i=>[(13,.c (.sc (.int .i64 ((i:Int))))),(5,.c (.sl 0 0 (mtO a b i).length (mtO a b i).length)),(7,.any),(9,.any)]) (fun i=>[.row 173 2 (pairs (mtO a b i))]) (fun i=>i≤a.length) (fun i=>a.length - i) (0) ?_ (rfl) ⟨.inr rfl,.inr rfl,.inl rfl,.inl rfl,trivial⟩ ?_
 ·simp
 rintro i hia
 refine G_seq ?_
 refine G_region' (L:=[0]) rfl ?_
 refine p_ rfl (L_bin rfl rfl rfl rfl) ?_
 refine EOps_nil ?_
 refine G_seq ?_
 refine G_cond rfl (fun hc14=>?_) (fun hc14=>?_)
 ·have hi1 : i < a.length := by simp [pairs_len] at hc14; omega
  obtain⟨x,hx⟩:=at_lt (l:=a) hi1
  have hO0:=mtO_at (b:=b) hx
  have hol:=mtO_len a b i
  have hob:i*b.length≤64*64:=Nat.mul_le_mul (by omega) hb
  refine G_skip ?_
  refine G_seq ?_
  refine G_block ?_
  refine G_seq ?_
  refine G_region' (L:=[0,1,2,3]) rfl ?_
  refine p_ rfl (L_index rfl rfl (xii sl_169 ty_196)) ?_
  refine l_ rfl (L_load rfl (xb0 ty_196)) ?_
  refine x_alloc rfl rfl rfl rfl za_196 ?_
  refine EOps_go rfl rfl (EOp_store rfl rfl rfl (xb1 ty_196) ?_)
  refine EOps_nil ?_
  refine G_seq ?_
  refine G_region' (L:=[0,1,2]) rfl ?_
  refine xmv ?_
  refine p_ rfl (l_len rfl sl_169) ?_
  refine xmv ?_
  refine EOps_nil ?_
  refine G_block ?_
  refine g_forD (α:=Nat) [0,1,4,7,11,12,13,14,17,18] (fun j=>[(19,.c (.sc (.int .i64 ((j:Int))))),(5,.c (.sl 0 0 (mtO a b i++mtI x b j).length (mtO a b i++mtI x b j).length)),(9,.any)]) (fun j=>[.row 173 2 (pairs (mtO a b i++mtI x b j)),.box [.sc (.int .i64 x.1),.sc (.int .i64 x.2)]]) (fun j=>j≤b.length) (fun j=>b.length - j) (0) ?_ ((by rw [show mtO a b i++mtI x b 0=mtO a b i from List.append_nil _]<;>rfl)) ⟨.inr rfl,.inr ((by rw [show mtO a b i++mtI x b 0=mtO a b i from List.append_nil _]<;>rfl)),.inl rfl,trivial⟩ ?_
  ·simp
  rintro j hjb
  have hpl:(pairs (mtO a b i++mtI x b j)).length=(mtO a b i++mtI x b j).length:=pairs_len _
  have hil:=mtI_len x b j
  have hlen:(mtO a b i++mtI x b j).length≤4200:=by rw [List.length_append];omega
  refine G_seq ?_
  refine G_region' (L:=[0]) rfl ?_
  refine p_ rfl (L_bin rfl rfl rfl rfl) ?_
  refine EOps_nil ?_
  refine G_seq ?_
  refine G_cond rfl (fun hc20=>?_) (fun hc20=>?_)
  ·have hj1 : j < b.length := by simp [pairs_len] at hc20; omega
   obtain⟨y,hy⟩:=at_lt (l:=b) hj1
   have hI0:=mtI_at (x:=x) hy
   refine G_skip ?_
   refine G_seq ?_
   refine G_block ?_
   refine G_seq ?_
   refine G_region' (L:=[0,1,2,3]) rfl ?_
   refine p_ rfl (L_index rfl rfl (xii sl_169 ty_196)) ?_
   refine l_ rfl (L_load rfl (xb0 ty_196)) ?_
   refine x_alloc rfl rfl rfl rfl za_196 ?_
   refine EOps_go rfl rfl (EOp_store rfl rfl rfl (xb1 ty_196) ?_)
   refine EOps_nil ?_
   refine G_seq ?_
   refine G_region' (L:=[0,1,2,3,4]) rfl ?_
   refine p_ rfl (l_field rfl fo_196_0) ?_
   refine l_ rfl (L_load rfl (xb0 ty_3)) ?_
   refine p_ rfl (l_field rfl fo_196_0) ?_
   refine l_ rfl (L_load rfl (xb0 ty_3)) ?_
   refine p_ rfl (L_bin rfl rfl rfl rfl) ?_
   refine EOps_nil ?_
   refine G_cond rfl (fun hc27=>?_) (fun hc27=>?_)
   ·have hxy : x.1 = y.1 := by simpa using hc27
    have hN:mtO a b i++mtI x b (j+1)=mtO a b i++mtI x b j++[(x.2,y.2)]:=by rw [hI0,if_pos hxy,List.append_assoc]
    have hL:(mtO a b i++mtI x b (j+1)).length=(mtO a b i++mtI x b j).length+1:=by rw [hN,List.length_append];rfl
    have hP:pairs (mtO a b i++mtI x b (j+1))=pairs (mtO a b i++mtI x b j)++pairs [(x.2,y.2)]:=by rw [hN];simp [pairs]
    refine G_region' (L:=[0,1,2,3,4,5,6,7,8]) rfl ?_
    refine xmv ?_
    refine p_ rfl (l_field rfl fo_196_1) ?_
    refine l_ rfl (L_load rfl (xb0 ty_3)) ?_
    refine p_ rfl (l_field rfl fo_196_1) ?_
    refine l_ rfl (L_load rfl (xb0 ty_3)) ?_
    refine p_ rfl (L_build rfl bd_173 rfl rfl) ?_
    refine EOps_go rfl rfl (Heavy.op (H_bslice_ro rfl rfl (by decide) sl_102 ty_173 za_173 ⟨rfl,by decide⟩ (by decide) rfl rfl rfl rfl ?_))
    refine EOps_go rfl rfl (EOp_append (news:=pairs [(x.2,y.2)]) rfl rfl (by decide) sl_102 ty_173 by_173 za_173 ⟨rfl,by decide⟩ rfl (by first|rfl|assumption) xb7 xb8 xb9 xb10 ?_)
    refine xas ?_
    refine EOps_nil ?_
    refine G_region' (L:=[0,1]) rfl ?_
    refine p_ rfl xb2 ?_
    refine xmv ?_
    refine EOps_nil ?_
    refine⟨[0,1],rfl,j+1,?_,?_,(by simp only [hP];rfl),⟨.inr rfl,.inr ((by rw [hL]<;>rfl)),.inl rfl,trivial⟩,⟨.inr rfl,.inr rfl,.inr rfl,.inr rfl,.inr rfl,.inr rfl,.inr rfl,.inr rfl,.inr rfl,.inr rfl,trivial⟩⟩
    ·first|omega|(dsimp only;omega)|(simp;omega)
    first|trivial|omega|(dsimp only;omega)|(simp;omega)
   have hxy : ¬ x.1 = y.1 := by simpa using hc27
   have hN:mtO a b i++mtI x b (j+1)=mtO a b i++mtI x b j:=by rw [hI0,if_neg hxy]
   have hL:(mtO a b i++mtI x b (j+1)).length=(mtO a b i++mtI x b j).length:=by rw [hN]
   have hP:pairs (mtO a b i++mtI x b (j+1))=pairs (mtO a b i++mtI x b j):=by rw [hN]
   refine G_skip ?_
   refine G_region' (L:=[0,1]) rfl ?_
   refine p_ rfl xb2 ?_
   refine xmv ?_
   refine EOps_nil ?_
   refine⟨[0,1],rfl,j+1,?_,?_,(by simp only [hP];rfl),⟨.inr rfl,.inr ((by rw [hL]<;>rfl)),.inl rfl,trivial⟩,⟨.inr rfl,.inr rfl,.inr rfl,.inr rfl,.inr rfl,.inr rfl,.inr rfl,.inr rfl,.inr rfl,.inr rfl,trivial⟩⟩
   ·first|omega|(dsimp only;omega)|(simp;omega)
   first|trivial|omega|(dsimp only;omega)|(simp;omega)
  have hj2 : j = b.length := by simp [pairs_len] at hc20; omega
  subst hj2
  have hO:mtO a b (i+1)=mtO a b i++mtI x b b.length:=hO0
  refine G_exit ?_
  refine G_region' (L:=[0,1]) rfl ?_
  refine p_ rfl xb2 ?_
  refine xmv ?_
  refine EOps_nil ?_
  refine⟨[0],rfl,i+1,?_,?_,(by rw [hO]<;>rfl),⟨.inr rfl,.inr ((by rw [hO]<;>rfl)),.inl rfl,.inl rfl,trivial⟩,⟨.inr rfl,.inr rfl,.inr rfl,.inr rfl,.inr rfl,trivial⟩⟩
  ·first|omega|(dsimp only;omega)|(simp;omega)
  first|trivial|omega|(dsimp only;omega)|(simp;omega)
 have hi2 : i = a.length := by simp [pairs_len] at hc14; omega
 subst hi2
 have hol:=mtO_len a b a.length
 have hob:a.length*b.length≤64*64:=Nat.mul_le_mul ha hb
 refine G_exit ?_
 refine G_seq ?_
 refine g_tidy [0,1,4,5,7,9,11,12,13,14,17,18,19,20,27] ?_
 refine G_region' (L:=[0,1]) rfl ?_
 refine xmv ?_
 refine x_frame [0] rfl rfl rfl rfl rfl ca_187 rfl (c_sortF (mtO a b a.length) (by omega)) ?_
 rintro r S ⟨r0,S0,⟨rfl,rfl⟩,rfl,rfl⟩
 refine EOps_nil ?_
 refine G_seq ?_
 refine G_region' (L:=[0,1]) rfl ?_
 refine xmv ?_
 refine xas ?_
 refine EOps_nil ?_
 refine G_ret ?_
 refine⟨_,[0],rfl,rfl,?_,?_⟩
 ·rw [matL,sortE_len];rfl
 rfl

end Go.Proofs.Ytcepgfcolmdnoaa.E
