/- Walks through functions, by program out of the session's annotations. -/
import Derived.Test.YthlhmpknngidmaaGreatA202
namespace Go.Proofs.YthlhmpknngidmaaGreat.E
open Go Go.RowKit Go.Proofs
set_option linter.unusedVariables false
set_option linter.unusedSimpArgs false

/-- Which maps are built. -/
def bltN (bs : List Bool) : Nat → List Int
 | 0=>[]
 | k+1=>if bs.getD k false=true then bltN bs k++[(k:Int)] else bltN bs k
def blt (bs:List Bool):List Int:=bltN bs bs.length
theorem bltN_at {bs : List Bool} {k : Nat} {b : Bool} (h : bs[k]? = some b) : bltN bs (k + 1) = if b = true then bltN bs k ++ [(k : Int)] else bltN bs k := by
 rw [bltN,List.getD_eq_getElem?_getD,h];rfl
theorem bltN_len (bs : List Bool) : ∀ k, (bltN bs k).length ≤ k
 | 0=>Nat.le_refl _
 | k + 1 => by
  have:=bltN_len bs k
  rw [bltN]
  split
  ·rw [List.length_append,List.length_singleton];omega
  ·omega

set_option maxRecDepth 20000 in
set_option maxHeartbeats 2000000 in
theorem c_impl_BuiltMaps (s : MSt) (hb : s.built.length ≤ 1048576) : EFn Tryz.prog 38 [.agg (msC s)] [] (fun r S => r = .c (.sl 0 0 (blt s.built).length (blt s.built).length) ∧ S = [.row 3 1 (ints (blt s.built))]) := by
 refine E_fn Tryz.func38 rfl (Nat.le_of_ble_eq_true rfl) ?_
 refine E_seq ?_
 refine E_region' (L:=[0,1]) rfl ?_
 refine x_box rfl rfl rfl rfl rfl ?_
 refine xas ?_
 refine EOps_nil ?_
 refine E_seq ?_
 refine E_region' (L:=[0,1]) rfl ?_
 refine EOps_go rfl rfl (Heavy.op (H_bslice rfl rfl (by decide) sl_22 ty_3 za_3 ⟨rfl,by decide⟩ (by decide) rfl rfl rfl rfl ?_))
 refine xas ?_
 refine EOps_nil ?_
 refine E_seq ?_
 refine E_seq ?_
 refine E_region' (L:=[0,1,2,3]) rfl ?_
 refine x_pure rfl rfl rfl (l_field rfl fo_31_4) ?_
 refine x_light rfl rfl rfl (L_load rfl (xb0 ty_25)) ?_
 refine x_pure rfl rfl rfl (l_len rfl sl_25) ?_
 refine xmv ?_
 refine EOps_nil ?_
 refine E_block ?_
 refine e_for (α:=Nat) [0,1,2,8,9] (fun k=>[(10,.c (.sc (.int .i64 ((k:Int))))),(3,.c (.sl 1 0 (bltN s.built k).length (bltN s.built k).length)),(4,.any),(5,.any)]) (fun k=>[.box (msC s),.row 3 1 (ints (bltN s.built k))]) (fun k=>k≤s.built.length) (fun k=>s.built.length - k) (0) ?_ (rfl) ⟨.inr rfl,.inr rfl,.inl rfl,.inl rfl,trivial⟩ ?_
 ·simp
 rintro k hk
 have hpl:=bltN_len s.built k
 refine E_seq ?_
 refine E_region' (L:=[0]) rfl ?_
 refine x_pure rfl rfl rfl (L_bin rfl rfl rfl rfl) ?_
 refine EOps_nil ?_
 refine E_seq ?_
 refine E_cond rfl (fun hc11=>?_) (fun hc11=>?_)
 ·have hc11' : k < (s.built).length := by simpa [ints_len, bools_len, pairs_len, quads_len, quints_len] using hc11
  obtain⟨x,hx⟩:∃ x,(s.built)[k]? = some x:=⟨_,List.getElem?_eq_getElem hc11'⟩
  have hbx:=bools_at hx
  have hst0:=bltN_at hx
  refine E_skip ?_
  refine E_seq ?_
  refine E_block ?_
  refine E_seq ?_
  refine E_region' (L:=[0,1,2,3,4]) rfl ?_
  refine xmv ?_
  refine x_pure rfl rfl rfl (L_index rfl rfl (by first|exact i_ro sl_25 ty_4|exact i_sl sl_25 ty_4)) ?_
  refine x_light rfl rfl rfl (L_load rfl (xb0 ty_4)) ?_
  refine xas ?_
  refine xas ?_
  refine EOps_nil ?_
  refine E_seq ?_
  refine E_region' (L:=[0]) rfl ?_
  refine xmv ?_
  refine EOps_nil ?_
  refine E_cond rfl (fun hc15=>?_) (fun hc15=>?_)
  ·have hx1 : x = true := by simpa using hc15
   have hst:bltN s.built (k+1)=bltN s.built k++[(k:Int)]:=by rw [hst0,if_pos hx1]
   refine E_region' (L:=[0,1,2,3,4]) rfl ?_
   refine xmv ?_
   refine xmv ?_
   refine EOps_go rfl rfl (Heavy.op (H_bslice_ro rfl rfl (by decide) sl_22 ty_3 za_3 ⟨rfl,by decide⟩ (by decide) rfl rfl rfl rfl ?_))
   refine EOps_go rfl rfl (EOp_append (news:=ints [(k:Int)]) rfl rfl (by decide) sl_22 ty_3 by_3 za_3 ⟨rfl,by decide⟩ rfl (by first|rfl|assumption) xb6 xb7 xb8 xb9 ?_)
   refine xas ?_
   refine EOps_nil ?_
   refine E_region' (L:=[0,1]) rfl ?_
   refine x_pure rfl rfl rfl xb2 ?_
   refine xmv ?_
   refine EOps_nil ?_
   refine⟨k+1,?_,?_,(by rw [hst]<;>first|rfl|(rw [← ints_app];rfl)),⟨.inr rfl,.inr ((by rw [hst]<;>first|rfl|(rw [← ints_lenApp];rfl))),.inl rfl,.inl rfl,trivial⟩,⟨.inr rfl,.inr rfl,.inr rfl,.inr rfl,.inr rfl,trivial⟩⟩
   ·first|omega|(dsimp only;omega)|(simp;omega)
   ·first|trivial|omega|(dsimp only;omega)|(simp;omega)
  ·have hx1 : x = false := by simpa using hc15
   have hst:bltN s.built (k+1)=bltN s.built k:=by rw [hst0,if_neg (by simp [hx1])]
   refine E_skip ?_
   refine E_region' (L:=[0,1]) rfl ?_
   refine x_pure rfl rfl rfl xb2 ?_
   refine xmv ?_
   refine EOps_nil ?_
   refine⟨k+1,?_,?_,(by rw [hst]<;>first|rfl|(rw [← ints_app];rfl)),⟨.inr rfl,.inr ((by rw [hst]<;>first|rfl|(rw [← ints_lenApp];rfl))),.inl rfl,.inl rfl,trivial⟩,⟨.inr rfl,.inr rfl,.inr rfl,.inr rfl,.inr rfl,trivial⟩⟩
   ·first|omega|(dsimp only;omega)|(simp;omega)
   ·first|trivial|omega|(dsimp only;omega)|(simp;omega)
 ·have hk2 : s.built.length ≤ k := by simpa [bools_len] using hc11
  have hke:k=s.built.length:=by omega
  subst hke
  refine E_exit ?_
  refine E_seq ?_
  refine E_region' (L:=[0,1]) rfl ?_
  refine xmv ?_
  refine xas ?_
  refine EOps_nil ?_
  refine E_ret ?_
  exact⟨_,[1],rfl,rfl,rfl,rfl⟩

end Go.Proofs.YthlhmpknngidmaaGreat.E
