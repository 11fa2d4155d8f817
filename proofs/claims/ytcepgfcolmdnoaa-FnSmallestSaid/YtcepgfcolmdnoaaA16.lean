/- Walks through functions, by program out of the session's annotations. -/
import Derived.Test.YtcepgfcolmdnoaaA14
import Derived.Test.YtcepgfcolmdnoaaA08
namespace Go.Proofs.Ytcepgfcolmdnoaa.E
open Go Go.RowKit Go.Proofs
set_option linter.unusedVariables false
set_option linter.unusedSimpArgs false

def endsN (l:List (Int × Int)) (k:Nat):List Int:=(l.take k).map (·.2)
def endsL (c:Crk):List Int:=endsN c.piv c.piv.length++[(c.vals.length:Int)]
theorem endsN_step {l:List (Int × Int)} {k:Nat} {p:Int × Int} (hp:l[k]? = some p):endsN l (k+1)=endsN l k++[p.2]:=by rw [endsN,List.take_add_one,hp,List.map_append];rfl
theorem endsN_len {l:List (Int × Int)} {k:Nat} (hk:k≤l.length):(endsN l k).length=k:=by rw [endsN,List.length_map,List.length_take];omega
theorem endsL_len (c:Crk):(endsL c).length=c.piv.length+1:=by rw [endsL,List.length_append,endsN_len (Nat.le_refl _)];rfl
set_option maxRecDepth 20000 in
set_option maxHeartbeats 2000000 in
theorem c_slices_Clone___impl_Pivot_impl_Pivot_0 (xs : List (Int × Int)) (hn : xs.length ≤ 1048576) : EFn Try.prog 163 [.c (.ro (pairs xs))] [] (fun r S => (r = .c (.sl 0 0 xs.length xs.length) ∧ S = [.row 129 2 (pairs xs)]) ∨ (r = .c (.sc (.slice none 0 0)) ∧ S = [] ∧ xs = [])) := by
 refine E_fn Try.func163 rfl (Nat.le_of_ble_eq_true rfl) ?_
 refine E_seq ?_
 refine E_region' (L:=[0]) rfl ?_
 refine xas ?_
 refine EOps_nil ?_
 refine E_seq ?_
 refine E_seq ?_
 refine E_region' (L:=[0,1]) rfl ?_
 refine xmv ?_
 refine EOps_go rfl rfl (Heavy.op (H_nil rfl rfl (by decide) sl_25 rfl ?_))
 rintro b4 hb4
 refine EOps_nil ?_
 refine E_cond rfl (fun hc4=>?_) (fun hc4=>?_)
 ·have he : xs = [] := by
   have h0:=hb4 hc4
   cases xs with
   | nil=>rfl
   | cons a l=>simp [pairs] at h0
  refine E_seq ?_
  refine E_region' (L:=[0]) rfl ?_
  refine xas ?_
  refine EOps_nil ?_
  refine E_ret ?_
  exact⟨_,[],rfl,rfl,.inr ⟨rfl,rfl,he⟩⟩
 refine E_skip ?_
 refine E_seq ?_
 refine E_region' (L:=[0,1,2,3]) rfl ?_
 refine EOps_go rfl rfl (Heavy.op (H_bslice rfl rfl (by decide) sl_25 ty_129 za_129 ⟨rfl,by decide⟩ (by decide) rfl rfl rfl rfl ?_))
 refine xmv ?_
 refine EOps_go rfl rfl (EOp_append (news:=pairs xs) rfl rfl (by decide) sl_25 ty_129 by_129 za_129 ⟨rfl,by decide⟩ rfl (by first|rfl|assumption) xb7 xb8 xb9 xb10 ?_)
 refine xas ?_
 refine EOps_nil ?_
 refine E_ret ?_
 refine⟨_,[0],rfl,rfl,.inl ⟨?_,?_⟩⟩
 ·simp [AV.ren,ren_sc,ren_ro,AC.ren,AC.ren.rens,ix,rv1,E.get,E.ev,E.cv,E.fill',E.fill,E.slotsOf,pairs_len]
 simp [reR,Res.ren,chunk]

theorem c_slices_Clone___impl_Pivot_impl_Pivot_ (xs : List (Int × Int)) (hn : xs.length ≤ 1048576) : EFn Try.prog 163 [.c (.ro (pairs xs))] [] (fun r S => r = .c (.sl 0 0 xs.length xs.length) ∧ S = [.row 129 2 (pairs xs)]) :=
 (c_slices_Clone___impl_Pivot_impl_Pivot_0 xs hn).ghost (by
  rintro r S (⟨rfl,rfl⟩|⟨rfl,rfl,rfl⟩)
  ·exact .inl ⟨rfl,rfl⟩
  exact .inr (.inr ⟨_,.sl 0 0 0 0,[some (129,2)],rfl,rfl,rfl,rfl,rfl⟩))

set_option maxRecDepth 20000 in
set_option maxHeartbeats 2000000 in
theorem c_spec_l4Ends (c : Crk) (h : c.piv.length ≤ 1048576) : EFn Try.prog 178 [.agg (crkC c)] [] (fun r S => r = .c (.sl 0 0 (c.piv.length + 1) (c.piv.length + 1)) ∧ S = [.row 3 1 (ints (endsL c))]) := by
 refine E_fn Try.func178 rfl (Nat.le_of_ble_eq_true rfl) ?_
 refine E_seq ?_
 refine E_region' (L:=[0,1]) rfl ?_
 refine x_box rfl rfl rfl rfl rfl ?_
 refine xas ?_
 refine EOps_nil ?_
 refine E_seq ?_
 refine E_region' (L:=[0,1]) rfl ?_
 refine EOps_go rfl rfl (Heavy.op (H_bslice rfl rfl (by decide) sl_24 ty_3 za_3 ⟨rfl,by decide⟩ (by decide) rfl rfl rfl rfl ?_))
 refine xas ?_
 refine EOps_nil ?_
 refine E_seq ?_
 refine E_seq ?_
 refine E_region' (L:=[0]) rfl ?_
 refine xas ?_
 refine EOps_nil ?_
 refine E_block ?_
 refine e_for (α:=Nat) [0,1,2] (fun k=>[(4,.c (.sc (.int .i64 (k)))),(3,.c (.sl 1 0 k k))]) (fun k=>[.box (crkC c),.row 3 1 (ints (endsN c.piv k))]) (fun k=>k≤c.piv.length) (fun k=>c.piv.length - k) (0) ?_ (rfl) ⟨.inr rfl,.inr rfl,trivial⟩ ?_
 ·simp
 rintro k hk
 refine E_seq ?_
 refine E_seq ?_
 refine E_region' (L:=[0,1,2,3,4]) rfl ?_
 refine xmv ?_
 refine p_ rfl (l_field rfl fo_27_2) ?_
 refine l_ rfl (L_load rfl (xb0 ty_25)) ?_
 refine p_ rfl (l_len rfl sl_25) ?_
 refine p_ rfl (L_bin rfl rfl rfl rfl) ?_
 refine EOps_nil ?_
 refine E_cond rfl (fun hc10=>?_) (fun hc10=>?_)
 ·have hc10' : k < (c.piv).length := by simpa [ints_len, bools_len, pairs_len, quads_len, quints_len] using hc10
  obtain⟨p,hp⟩:∃ x,(c.piv)[k]? = some x:=⟨_,List.getElem?_eq_getElem hc10'⟩
  have hel:(ints (endsN c.piv k)).length=k:=by rw [ints_len,endsN_len (by omega)]
  refine E_skip ?_
  refine E_seq ?_
  refine E_block ?_
  refine E_region' (L:=[0,1,2,3,4,5,6,7,8,9]) rfl ?_
  refine xmv ?_
  refine p_ rfl (l_field rfl fo_27_2) ?_
  refine l_ rfl (L_load rfl (xb0 ty_25)) ?_
  refine xmv ?_
  refine p_ rfl (L_index rfl rfl (xii sl_25 ty_129)) ?_
  refine p_ rfl (l_field rfl fo_129_1) ?_
  refine l_ rfl (L_load rfl (xb0 ty_3)) ?_
  refine EOps_go rfl rfl (Heavy.op (H_bslice_ro rfl rfl (by decide) sl_24 ty_3 za_3 ⟨rfl,by decide⟩ (by decide) rfl rfl rfl rfl ?_))
  refine EOps_go rfl rfl (EOp_append (news:=[[T.sc (.int .i64 p.2)]]) rfl rfl (by decide) sl_24 ty_3 by_3 za_3 ⟨rfl,by decide⟩ rfl (by first|rfl|assumption) xb7 xb8 xb9 xb10 ?_)
  refine xas ?_
  refine EOps_nil ?_
  refine E_region' (L:=[0,1,2]) rfl ?_
  refine xmv ?_
  refine p_ rfl xb2 ?_
  refine xas ?_
  refine EOps_nil ?_
  refine⟨k+1,?_,?_,by simp [endsN_step hp,ints],⟨.inr rfl,.inr rfl,trivial⟩,⟨.inr rfl,.inr rfl,.inr rfl,trivial⟩⟩
  ·first|omega|(dsimp only;omega)|(simp;omega)
  first|trivial|omega|(dsimp only;omega)|(simp;omega)
 have hkk : k = c.piv.length := by simp [pairs_len] at hc10; omega
 have hel:(ints (endsN c.piv k)).length=k:=by rw [ints_len,endsN_len (by omega)]
 refine E_exit ?_
 refine E_seq ?_
 refine E_region' (L:=[0,1,2,3,4,5,6]) rfl ?_
 refine xmv ?_
 refine p_ rfl (l_field rfl fo_27_0) ?_
 refine l_ rfl (L_load rfl (xb0 ty_24)) ?_
 refine p_ rfl (l_len rfl sl_24) ?_
 refine EOps_go rfl rfl (Heavy.op (H_bslice_ro rfl rfl (by decide) sl_24 ty_3 za_3 ⟨rfl,by decide⟩ (by decide) rfl rfl rfl rfl ?_))
 refine EOps_go rfl rfl (EOp_append (news:=[[T.sc (.int .i64 (ints c.vals).length)]]) rfl rfl (by decide) sl_24 ty_3 by_3 za_3 ⟨rfl,by decide⟩ rfl (by first|rfl|assumption) xb7 xb8 xb9 xb10 ?_)
 refine xas ?_
 refine EOps_nil ?_
 refine E_ret ?_
 subst hkk
 refine⟨_,[1],rfl,rfl,rfl,?_⟩
 simp [reR,Res.ren,endsL,ints,ints_len]

end Go.Proofs.Ytcepgfcolmdnoaa.E
