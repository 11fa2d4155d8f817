/- Walks through functions, by program out of the session's annotations. -/
import Derived.Test.YtcepgfcolmdnoaaA27
import Derived.Test.YtcepgfcolmdnoaaA14
import Derived.Test.YtcepgfcolmdnoaaA08
import Derived.Test.YtcepgfcolmdnoaaF3
namespace Go.Proofs.Ytcepgfcolmdnoaa.E
open Go Go.RowKit Go.Proofs
set_option linter.unusedVariables false
set_option linter.unusedSimpArgs false

def pndO (n:Nat) (p:Pnd):List AC:=[.sl n 0 p.ins.length p.ins.length,.sl (n+1) 0 p.del.length p.del.length]
def pndR (ti te:Nat) (p:Pnd):List Res:=[.row te 2 (pairs p.ins),.row ti 1 (ints p.del)]

set_option maxRecDepth 20000 in
set_option maxHeartbeats 2000000 in
theorem c_slices_Clone___impl_Item_impl_Item_0 (xs : List (Int × Int)) (hn : xs.length ≤ 1048576) : EFn Try.prog 173 [.c (.ro (pairs xs))] [] (fun r S => (r = .c (.sl 0 0 xs.length xs.length) ∧ S = [.row 60 2 (pairs xs)]) ∨ (r = .c (.sc (.slice none 0 0)) ∧ S = [] ∧ xs = [])) := by
 refine E_fn Try.func173 rfl (Nat.le_of_ble_eq_true rfl) ?_
 refine E_seq ?_
 refine E_region' (L:=[0]) rfl ?_
 refine xas ?_
 refine EOps_nil ?_
 refine E_seq ?_
 refine E_seq ?_
 refine E_region' (L:=[0,1]) rfl ?_
 refine xmv ?_
 refine EOps_go rfl rfl (Heavy.op (H_nil rfl rfl (by decide) sl_56 rfl ?_))
 rintro b4 hb4
 refine EOps_nil ?_
 refine E_cond rfl (fun hc4=>?_) (fun hc4=>?_)
 ·have he : xs = [] := by
   have h0:=hb4 hc4
   cases xs with
   | nil=>rfl
   | cons a l=>simp [pairs] at h0
  refine E_seq ?_
  refine E_region' (L:=[0]) rfl ?_
  refine xas ?_
  refine EOps_nil ?_
  refine E_ret ?_
  exact⟨_,[],rfl,rfl,.inr ⟨rfl,rfl,he⟩⟩
 ·refine E_skip ?_
  refine E_seq ?_
  refine E_region' (L:=[0,1,2,3]) rfl ?_
  refine EOps_go rfl rfl (Heavy.op (H_bslice rfl rfl (by decide) sl_56 ty_60 za_60 ⟨rfl,by decide⟩ (by decide) rfl rfl rfl rfl ?_))
  refine xmv ?_
  refine EOps_go rfl rfl (EOp_append (news:=pairs xs) rfl rfl (by decide) sl_56 ty_60 by_60 za_60 ⟨rfl,by decide⟩ rfl (by first|rfl|assumption) xb6 xb7 xb8 xb9 ?_)
  refine xas ?_
  refine EOps_nil ?_
  refine E_ret ?_
  refine⟨_,[0],rfl,rfl,.inl ⟨?_,?_⟩⟩
  ·simp [AV.ren,ren_sc,ren_ro,AC.ren,AC.ren.rens,ix,rv1,E.get,E.ev,E.cv,E.fill',E.fill,E.slotsOf,pairs_len]
  ·simp [reR,Res.ren,chunk]

theorem c_slices_Clone___impl_Item_impl_Item_ (xs : List (Int × Int)) (hn : xs.length ≤ 1048576) : EFn Try.prog 173 [.c (.ro (pairs xs))] [] (fun r S => r = .c (.sl 0 0 xs.length xs.length) ∧ S = [.row 60 2 (pairs xs)]) :=
 (c_slices_Clone___impl_Item_impl_Item_0 xs hn).ghost (by
  rintro r S (⟨rfl,rfl⟩|⟨rfl,rfl,rfl⟩)
  ·exact .inl ⟨rfl,rfl⟩
  ·exact .inr (.inr ⟨_,.sl 0 0 0 0,[some (60,2)],rfl,rfl,rfl,rfl,rfl⟩))

set_option maxRecDepth 20000 in
set_option maxHeartbeats 2000000 in
theorem c_impl_copyPending (p : Pnd) (h : p.ins.length ≤ 1048576 ∧ p.del.length ≤ 1048576) : EFn Try.prog 106 [.agg (pndC p)] [] (fun r S => r = .agg (pndO 0 p) ∧ S = pndR 3 60 p) := by
 refine E_fn Try.func106 rfl (Nat.le_of_ble_eq_true rfl) ?_
 refine E_G (n:=0) rfl ?_
 refine G_seq ?_
 refine G_region' (L:=[0,1]) rfl ?_
 refine x_box rfl rfl rfl rfl rfl ?_
 refine x_alloc rfl rfl rfl rfl za_58 ?_
 refine EOps_nil ?_
 refine G_seq ?_
 refine G_drawT mixed ?_
 refine t_old 0 rfl rfl rfl (l_field rfl fo_58_0) ?_
 refine t_light 1 rfl rfl rfl (L_load rfl (xb0 ty_56)) ?_
 refine t_old 3 rfl rfl rfl (l_field rfl fo_58_1) ?_
 refine t_light 4 rfl rfl rfl (L_load rfl (xb0 ty_24)) ?_
 refine t_fresh 2 [(⟨none,2,5,0⟩,_),(⟨none,5,8,0⟩,_)] [(5,.any),(8,.any)] [2,5] ⟨.one rfl rfl rfl (by decide) (f_call rfl rfl ca_173 (c_slices_Clone___impl_Item_impl_Item_ p.ins h.1)),.one rfl rfl rfl (by decide) (f_call rfl rfl ca_123 (c_slices_Clone___int_int_ p.del h.2)),trivial⟩ ?_
 refine fk_cons ?_
 rintro r S ⟨rfl,rfl⟩
 refine fk_cons ?_
 rintro r S ⟨rfl,rfl⟩
 refine fk_nil ?_
 refine t_pure 6 rfl rfl rfl (L_build rfl bd_58 rfl rfl) ?_
 refine t_turn 7 rfl rfl (EOp_store rfl rfl rfl (xb1 ty_58) ?_)
 refine T_done (by kernel_rfl) ?_
 refine G_ret ?_
 exact⟨_,[2,3],rfl,rfl,rfl,rfl⟩

end Go.Proofs.Ytcepgfcolmdnoaa.E
