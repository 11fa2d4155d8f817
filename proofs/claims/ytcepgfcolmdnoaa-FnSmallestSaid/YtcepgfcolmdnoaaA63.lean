/- Walks through functions, by program out of the session's annotations. -/
import Derived.Test.YtcepgfcolmdnoaaA61
import Derived.Test.YtcepgfcolmdnoaaF4
namespace Go.Proofs.Ytcepgfcolmdnoaa.E
open Go Go.RowKit Go.Proofs
set_option linter.unusedVariables false
set_option linter.unusedSimpArgs false

def smL (c:Crk) (k:Int):List Int:=if cpK c k=true then sortI (cutV (cpC c k).vals ((0:Nat):Int) k) else []
theorem smL_len {c : Crk} {k : Int} (hk : cpK c k = true) : ((smL c k).length : Int) = k := by
 have h:=cpC_ok hk
 have hp:=cpK_parts hk
 rw [smL,if_pos hk,sortI_len,cutV_len (Int.natCast_nonneg _) (by omega) (by omega)]
 omega

set_option maxRecDepth 20000 in
set_option maxHeartbeats 4000000 in
theorem c_spec_SmallestValues (c : Crk) (k : Int) (hb : c.vals.length ≤ 1048576 ∧ c.rows.length ≤ 1048576 ∧ c.piv.length ≤ 1048576) : EFn Try.prog 53 [.agg (crkC c), .c (.sc (.int .i64 k))] [] (fun r S => r = .tup [(true, crkO 0 (cpC c k)), (false, [.sl 3 0 (smL c k).length (smL c k).length])] ∧ S = crkR 3 129 (cpC c k) ++ [.row 3 1 (ints (smL c k))]) := by
 refine E_fn Try.func53 rfl (Nat.le_of_ble_eq_true rfl) ?_
 have hle:=cpC_le (k:=k) hb
 have hok:=cpC_ok (c:=c) (k:=k)
 have hsm:smL c k=if cpK c k=true then sortI (cutV (cpC c k).vals ((0:Nat):Int) k) else []:=rfl
 have hpk:=cpK_parts (c:=c) (k:=k)
 refine E_seq ?_
 refine E_region' (L:=[0,1,2]) rfl ?_
 refine x_box rfl rfl rfl rfl rfl ?_
 refine x_alloc rfl rfl rfl rfl za_27 ?_
 refine xas ?_
 refine EOps_nil ?_
 refine E_seq ?_
 refine e_tidy_A37_2 [0,1,2,4,5] ?_
 refine E_region' (L:=[0,1,2,3,4,5,6,7,8,9,10]) rfl ?_
 refine l_ rfl (L_load rfl (xb0 ty_27)) ?_
 refine xmv ?_
 refine x_call rfl rfl rfl rfl rfl ca_131 (c_spec_CrackPosition c k hb) ?_
 rintro r S ⟨rfl,rfl⟩
 generalize smL c k=sm at *
 generalize cpC c k=q at *
 generalize cpN c k=nn at *
 generalize cpK c k=kk at *
 refine xmv ?_
 refine p_ rfl (L_extract rfl rfl) ?_
 refine p_ rfl (L_extract rfl rfl) ?_
 refine p_ rfl (L_extract rfl rfl) ?_
 refine x_alloc rfl rfl rfl rfl za_27 ?_
 refine EOps_go rfl rfl (EOp_store rfl rfl rfl (xb1 ty_27) ?_)
 refine xas ?_
 refine xas ?_
 refine EOps_nil ?_
 refine E_seq ?_
 refine E_seq ?_
 refine E_region' (L:=[0,1]) rfl ?_
 refine xmv ?_
 refine p_ rfl (L_not rfl rfl) ?_
 refine EOps_nil ?_
 refine E_cond rfl (fun hc17=>?_) (fun hc17=>?_)
 ·obtain rfl : kk = false := by simpa using hc17
  obtain rfl:sm=[]:=hsm
  refine E_seq ?_
  refine E_region' (L:=[0,1,2,3]) rfl ?_
  refine l_ rfl (L_load rfl (xb0 ty_27)) ?_
  refine EOps_go rfl rfl (Heavy.op (H_bslice rfl rfl (by decide) sl_24 ty_3 za_3 ⟨rfl,by decide⟩ (by decide) rfl rfl rfl rfl ?_))
  refine EOps_go rfl rfl (EOp_store rfl rfl rfl (xb1 ty_27) ?_)
  refine xas ?_
  refine EOps_nil ?_
  refine E_ret ?_
  exact⟨_,[2,3,4,6],rfl,rfl,rfl,rfl⟩
 obtain rfl : kk = true := by simpa using hc17
 obtain⟨hq1,hq2⟩:=hok rfl
 have hp:=hpk rfl
 rw [if_pos rfl] at hsm
 obtain⟨kn,rfl⟩:∃ kn:Nat,k=kn:=⟨_,(Int.toNat_of_nonneg hp.2.1).symm⟩
 have hle2:(cutV q.vals ((0:Nat):Int) kn).length≤1048576:=by rw [cutV,List.length_take,List.length_drop];omega
 refine E_skip ?_
 refine E_seq ?_
 refine e_tidy_A37_2 [0,1,2,4,5,6,8,17] ?_
 refine E_drawT mixed ?_
 refine tl_ 0 rfl (L_load rfl (xb0 ty_27)) ?_
 refine tj_ 1 rfl (l_field rfl fo_27_0) ?_
 refine tl_ 2 rfl (L_load rfl (xb0 ty_24)) ?_
 refine tj_ 3 rfl (L_move rfl) ?_
 refine tj_ 4 rfl (by first|exact L_slice_ro (l:=0) (h:=kn) rfl sl_24 ty_3 rfl rfl rfl (by first|omega|(simp [ints_len,pairs_len,quads_len,quints_len,bools_len];omega)|(simp [ints_len,pairs_len,quads_len,quints_len,bools_len] at *;omega)) (by first|omega|(simp [ints_len,pairs_len,quads_len,quints_len,bools_len];omega)|(simp [ints_len,pairs_len,quads_len,quints_len,bools_len] at *;omega)) (by first|exact fun r hr=>(ints_row _ r hr).1|exact fun r hr=>(pairs_row _ r hr).1|exact fun r hr=>(quads_row _ r hr).1|exact fun r hr=>(quints_row _ r hr).1|exact fun r hr=>(bools_row _ r hr).1)|exact L_slice_sl (l:=0) (h:=kn) rfl sl_24 ty_3 rfl (by first|rfl|assumption) (by first|assumption|exact ints_len _|exact pairs_len _|exact quads_len _|exact quints_len _|exact bools_len _|(simp [ints_len,bools_len,pairs_len,quads_len,quints_len,part_len, *];done)|(simp [ints_len,bools_len,pairs_len,quads_len,quints_len];omega)|rfl) rfl rfl (by first|omega|(simp [ints_len,pairs_len,quads_len,quints_len,bools_len];omega)|(simp [ints_len,pairs_len,quads_len,quints_len,bools_len] at *;omega)) (by first|omega|(simp [ints_len,pairs_len,quads_len,quints_len,bools_len];omega)|(simp [ints_len,pairs_len,quads_len,quints_len,bools_len] at *;omega))) ?_
 refine t_call 5 rfl rfl rfl rfl rfl ca_54 (c_spec_SortInts (cutV q.vals ((0:Nat):Int) kn) hle2) ?_ (ha:=by exact cons_eq (lend_cutI rfl rfl) rfl)
 rintro r S ⟨rfl,rfl⟩
 refine t_turn 6 rfl rfl (EOp_store rfl rfl rfl (xb1 ty_27) ?_)
 refine tj_ 7 rfl (L_assign rfl) ?_
 refine T_done (by kernel_rfl) ?_
 refine E_ret ?_
 rw [hsm]
 exact⟨_,[2,3,4,6],rfl,rfl,rfl,rfl⟩

set_option maxRecDepth 20000 in
set_option maxHeartbeats 4000000 in
theorem c_impl_SmallestValues (c : Crk) (k : Int) (hb : c.vals.length ≤ 1048576 ∧ c.rows.length ≤ 1048576 ∧ c.piv.length ≤ 1048576) : EFn Try.prog 52 [.agg (crkC c), .c (.sc (.int .i64 k))] [] (fun r S => r = .tup [(true, crkO 0 (cpC c k)), (false, [.sl 3 0 (smL c k).length (smL c k).length])] ∧ S = crkR 3 129 (cpC c k) ++ [.row 3 1 (ints (smL c k))]) := by
 refine E_fn Try.func52 rfl (Nat.le_of_ble_eq_true rfl) ?_
 have hle:=cpC_le (k:=k) hb
 have hok:=cpC_ok (c:=c) (k:=k)
 have hsm:smL c k=if cpK c k=true then sortI (cutV (cpC c k).vals ((0:Nat):Int) k) else []:=rfl
 have hpk:=cpK_parts (c:=c) (k:=k)
 refine E_seq ?_
 refine E_region' (L:=[0,1,2]) rfl ?_
 refine x_box rfl rfl rfl rfl rfl ?_
 refine x_alloc rfl rfl rfl rfl za_27 ?_
 refine xas ?_
 refine EOps_nil ?_
 refine E_seq ?_
 refine e_tidy_A37_2 [0,1,2,4,5] ?_
 refine E_region' (L:=[0,1,2,3,4,5,6,7,8,9,10]) rfl ?_
 refine l_ rfl (L_load rfl (xb0 ty_27)) ?_
 refine xmv ?_
 refine x_call rfl rfl rfl rfl rfl ca_55 (c_impl_CrackPosition c k hb) ?_
 rintro r S ⟨rfl,rfl⟩
 generalize smL c k=sm at *
 generalize cpC c k=q at *
 generalize cpN c k=nn at *
 generalize cpK c k=kk at *
 refine xmv ?_
 refine p_ rfl (L_extract rfl rfl) ?_
 refine p_ rfl (L_extract rfl rfl) ?_
 refine p_ rfl (L_extract rfl rfl) ?_
 refine x_alloc rfl rfl rfl rfl za_27 ?_
 refine EOps_go rfl rfl (EOp_store rfl rfl rfl (xb1 ty_27) ?_)
 refine xas ?_
 refine xas ?_
 refine EOps_nil ?_
 refine E_seq ?_
 refine E_seq ?_
 refine E_region' (L:=[0,1]) rfl ?_
 refine xmv ?_
 refine p_ rfl (L_not rfl rfl) ?_
 refine EOps_nil ?_
 refine E_cond rfl (fun hc17=>?_) (fun hc17=>?_)
 ·obtain rfl : kk = false := by simpa using hc17
  obtain rfl:sm=[]:=hsm
  refine E_seq ?_
  refine E_region' (L:=[0,1,2]) rfl ?_
  refine l_ rfl (L_load rfl (xb0 ty_27)) ?_
  refine EOps_go rfl rfl (EOp_store rfl rfl rfl (xb1 ty_27) ?_)
  refine xas ?_
  refine EOps_nil ?_
  refine E_ghostS 5 3 1 rfl (by decide) ?_
  refine E_ret ?_
  exact⟨_,[2,3,4,6],rfl,rfl,rfl,rfl⟩
 obtain rfl : kk = true := by simpa using hc17
 obtain⟨hq1,hq2⟩:=hok rfl
 have hp:=hpk rfl
 rw [if_pos rfl] at hsm
 obtain⟨kn,rfl⟩:∃ kn:Nat,k=kn:=⟨_,(Int.toNat_of_nonneg hp.2.1).symm⟩
 have hle2:(cutV q.vals ((0:Nat):Int) kn).length≤1048576:=by rw [cutV,List.length_take,List.length_drop];omega
 refine E_skip ?_
 refine E_seq ?_
 refine e_tidy_A37_2 [0,1,2,4,5,6,8,17] ?_
 refine E_drawT mixed ?_
 refine tl_ 0 rfl (L_load rfl (xb0 ty_27)) ?_
 refine tj_ 1 rfl (l_field rfl fo_27_0) ?_
 refine tl_ 2 rfl (L_load rfl (xb0 ty_24)) ?_
 refine tj_ 3 rfl (L_move rfl) ?_
 refine tj_ 4 rfl (by first|exact L_slice_ro (l:=0) (h:=kn) rfl sl_24 ty_3 rfl rfl rfl (by first|omega|(simp [ints_len,pairs_len,quads_len,quints_len,bools_len];omega)|(simp [ints_len,pairs_len,quads_len,quints_len,bools_len] at *;omega)) (by first|omega|(simp [ints_len,pairs_len,quads_len,quints_len,bools_len];omega)|(simp [ints_len,pairs_len,quads_len,quints_len,bools_len] at *;omega)) (by first|exact fun r hr=>(ints_row _ r hr).1|exact fun r hr=>(pairs_row _ r hr).1|exact fun r hr=>(quads_row _ r hr).1|exact fun r hr=>(quints_row _ r hr).1|exact fun r hr=>(bools_row _ r hr).1)|exact L_slice_sl (l:=0) (h:=kn) rfl sl_24 ty_3 rfl (by first|rfl|assumption) (by first|assumption|exact ints_len _|exact pairs_len _|exact quads_len _|exact quints_len _|exact bools_len _|(simp [ints_len,bools_len,pairs_len,quads_len,quints_len,part_len, *];done)|(simp [ints_len,bools_len,pairs_len,quads_len,quints_len];omega)|rfl) rfl rfl (by first|omega|(simp [ints_len,pairs_len,quads_len,quints_len,bools_len];omega)|(simp [ints_len,pairs_len,quads_len,quints_len,bools_len] at *;omega)) (by first|omega|(simp [ints_len,pairs_len,quads_len,quints_len,bools_len];omega)|(simp [ints_len,pairs_len,quads_len,quints_len,bools_len] at *;omega))) ?_
 refine t_call 5 rfl rfl rfl rfl rfl ca_101 (c_impl_SortInts (cutV q.vals ((0:Nat):Int) kn) hle2) ?_ (ha:=by exact cons_eq (lend_cutI rfl rfl) rfl)
 rintro r S ⟨rfl,rfl⟩
 refine t_turn 6 rfl rfl (EOp_store rfl rfl rfl (xb1 ty_27) ?_)
 refine tj_ 7 rfl (L_assign rfl) ?_
 refine T_done (by kernel_rfl) ?_
 refine E_ret ?_
 rw [hsm]
 exact⟨_,[2,3,4,6],rfl,rfl,rfl,rfl⟩

end Go.Proofs.Ytcepgfcolmdnoaa.E
