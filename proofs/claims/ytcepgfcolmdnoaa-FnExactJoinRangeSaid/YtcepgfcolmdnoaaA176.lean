/- Walks through functions, by program out of the session's annotations. -/
import Derived.Test.YtcepgfcolmdnoaaA175
import Derived.Test.YtcepgfcolmdnoaaF4
namespace Go.Proofs.Ytcepgfcolmdnoaa.E
open Go Go.RowKit Go.Proofs
set_option linter.unusedVariables false
set_option linter.unusedSimpArgs false

theorem fp_in {c : Crk} {u : Int} (h : isPv c.piv u = true) : (u, fpAt c.piv u) ∈ c.piv := by
 unfold isPv at h
 unfold fpAt
 cases hf:fpv c.piv u with
 | none=>rw [hf] at h;cases h
 | some p =>
  have hm:=List.mem_of_find?_eq_some hf
  have hp:p.1=u:=by simpa using List.find?_some hf
  have e:(u,p.2)=p:=by rw [← hp]
  dsimp only
  rw [e];exact hm
/-- What is selected lies in the range. -/
theorem sel_range {c : Crk} {r : Int × Int} (hsk : selK c r = true) (i : Nat) (h1 : selLo c r ≤ i) (h2 : (i : Int) < selHi c r) : inR r ((selC c r).vals.getD i 0) = true := by
 have hcr:isCrk c=true∧isRng r=true:=by simpa [selK] using hsk
 obtain⟨hc,hr⟩:=hcr
 obtain⟨n0,n1,n2,n3,n4⟩:=sel_in hsk
 have ho:=(crk_iff _).1 n0
 have e:selC c r=(crackC (crackC c r.1).1 r.2).1:=by rw [selC,if_pos hsk,sel2]
 have e1:selLo c r=fpAt (selC c r).piv r.1:=by rw [e,selLo,if_pos hsk,sel2]
 have e2:selHi c r=fpAt (selC c r).piv r.2:=by rw [e,selHi,if_pos hsk,sel2]
 have p1:isPv (selC c r).piv r.1=true:=by rw [e];exact crackC_keep crackC_pv
 have p2:isPv (selC c r).piv r.2=true:=by rw [e];exact crackC_pv
 obtain⟨_,_,_,_,a3⟩:=ho.pv _ (fp_in p1)
 obtain⟨_,_,_,_,b3⟩:=ho.pv _ (fp_in p2)
 have g1:=a3 i (by omega)
 have g2:=b3 i (by omega)
 dsimp only at g1 g2
 rw [← e1] at g1
 rw [← e2] at g2
 simp only [inR,hr,Bool.true_and,Bool.and_eq_true,decide_eq_true_eq]
 omega
def jnK (a b:Crk) (r:Int × Int):Bool:=isCrk a && isCrk b && isRng r
def jnE (c:Crk) (r:Int × Int):List (Int × Int):=elemsN (selC c r) (selLo c r) (selHi c r - selLo c r).toNat
def jnA (a b:Crk) (r:Int × Int):Crk:=if jnK a b r=true then selC a r else a
def jnB (a b:Crk) (r:Int × Int):Crk:=if jnK a b r=true then selC b r else b
def jnL (a b:Crk) (r:Int × Int):List (Int × Int):=if jnK a b r=true then matL (jnE a r) (jnE b r) else []
theorem jnK_parts {a b : Crk} {r : Int × Int} (h : jnK a b r = true) : isCrk a = true ∧ isCrk b = true ∧ isRng r = true := by
 simp only [jnK,Bool.and_eq_true] at h
 exact⟨h.1.1,h.1.2,h.2⟩
theorem jnE_len {c : Crk} {r : Int × Int} (hk : selK c r = true) : (jnE c r).length ≤ 64 := by
 obtain⟨n0,n1,n2,n3,n4⟩:=sel_in hk
 have:=crk_lens n0
 rw [jnE,elemsN_len]
 omega
theorem jn_le {a b : Crk} {r : Int × Int} (ha : a.vals.length ≤ 1048576 ∧ a.rows.length ≤ 1048576 ∧ a.piv.length ≤ 1048576) (hb : b.vals.length ≤ 1048576 ∧ b.rows.length ≤ 1048576 ∧ b.piv.length ≤ 1048576) : ((jnA a b r).vals.length ≤ 1048576 ∧ (jnA a b r).rows.length ≤ 1048576 ∧ (jnA a b r).piv.length ≤ 1048576) ∧ ((jnB a b r).vals.length ≤ 1048576 ∧ (jnB a b r).rows.length ≤ 1048576 ∧ (jnB a b r).piv.length ≤ 1048576) ∧ (jnL a b r).length ≤ 1048576 := by
 cases hk:jnK a b r
 ·simp only [jnA,jnB,jnL,hk,Bool.false_eq_true,if_false];exact⟨ha,hb,by simp⟩
 obtain ⟨h1, h2, h3⟩ := jnK_parts hk
 simp only [jnA,jnB,jnL,hk,if_true]
 have:=matL_len (jnE_len (c:=a) (r:=r) (by simp [selK,h1,h3])) (jnE_len (c:=b) (r:=r) (by simp [selK,h2,h3]))
 exact⟨sel_le ha,sel_le hb,by omega⟩
theorem part_lens {c : Crk} {u w : Nat} (hl : c.rows.length = c.vals.length) (h : c.vals.length ≤ 64) : (partCr c u w).rows.length = (partCr c u w).vals.length ∧ (partCr c u w).vals.length ≤ 64 := by
 simp only [partCr,cutV,List.length_take,List.length_drop]
 omega
theorem jn_eq {a b : Crk} {r : Int × Int} {u w u' w' : Nat} (ha : selK a r = true) (hb : selK b r = true) (e1 : selLo a r = u) (e2 : selHi a r = w) (e3 : selLo b r = u') (e4 : selHi b r = w') : lpS (partCr (selC a r) u w) (partCr (selC b r) u' w') r 1000 = matL (jnE a r) (jnE b r) := by
 obtain⟨n0,n1,n2,n3,n4⟩:=sel_in ha
 obtain⟨m0,m1,m2,m3,m4⟩:=sel_in hb
 have hin:=sel_range ha
 rw [jnE,jnE]
 simp only [e1,e2] at hin n1 n2 n3 ⊢
 simp only [e3,e4] at m1 m2 m3 ⊢
 rw [join_eq ((crk_iff _).1 n0) ((crk_iff _).1 m0) (by omega) (by omega) (fun i h1 h2=>hin i (by omega) (by omega))]
 rw [show ((w:Int) - (u:Int)).toNat=w - u by omega,show ((w':Int) - (u':Int)).toNat=w' - u' by omega]

set_option maxRecDepth 20000 in
set_option maxHeartbeats 8000000 in
theorem c_impl_JoinRange (a b : Crk) (r : Int × Int) (hb : (a.vals.length ≤ 1048576 ∧ a.rows.length ≤ 1048576 ∧ a.piv.length ≤ 1048576) ∧ b.vals.length ≤ 1048576 ∧ b.rows.length ≤ 1048576 ∧ b.piv.length ≤ 1048576) : EFn Try.prog 70 [.agg (crkC a), .agg (crkC b), .agg [.sc (.int .i64 r.1), .sc (.int .i64 r.2)]] [] (fun y S => y = .tup [(true, crkO 0 (jnA a b r)), (true, crkO 3 (jnB a b r)), (false, [.sl 6 0 (jnL a b r).length (jnL a b r).length]), (false, [.sc (.bool (jnK a b r))])] ∧ S = crkR 3 129 (jnA a b r) ++ crkR 3 129 (jnB a b r) ++ [.row 173 2 (pairs (jnL a b r))]) := by
 refine E_fn Try.func70 rfl (Nat.le_of_ble_eq_true rfl) ?_
 refine E_seq ?_
 refine E_region' (L:=[0,1,2,3,4,5,6]) rfl ?_
 refine x_box rfl rfl rfl rfl rfl ?_
 refine x_box rfl rfl rfl rfl rfl ?_
 refine x_box rfl rfl rfl rfl rfl ?_
 refine x_alloc rfl rfl rfl rfl za_27 ?_
 refine x_alloc rfl rfl rfl rfl za_27 ?_
 refine xas ?_
 refine xas ?_
 refine EOps_nil ?_
 refine E_seq ?_
 refine E_seq ?_
 refine e_tidy_A37_2 [0,1,2,3,4,5,6,7,8,9] ?_
 refine E_region' (L:=[0,1,2,3,4,5,6,7,8,9,10,11,12]) rfl ?_
 refine l_ rfl (L_load rfl (xb0 ty_27)) ?_
 refine x_call rfl rfl rfl rfl rfl ca_28 (c_impl_IsCracker a) ?_
 rintro r S ⟨rfl,rfl⟩
 refine p_ rfl (L_not rfl rfl) ?_
 refine xmv ?_
 refine EOps_split 21 (b:=_) rfl (fun hg21=>?_) (fun hg21=>?_)
 ·refine s_ rfl ?_
  refine s_ rfl ?_
  refine s_ rfl ?_
  refine p_ rfl (L_pick rfl rfl) ?_
  refine xmv ?_
  refine s_ rfl ?_
  refine s_ rfl ?_
  refine s_ rfl ?_
  refine p_ rfl (L_pick rfl rfl) ?_
  refine EOps_nil ?_
  refine E_cond rfl (fun hc30=>?_) (fun hc30=>?_)
  ·have hk : jnK a b r = false := by
    simp only [jnK]
    first|(simp_all;done)|simp_all
   have hcc:jnA a b r=a∧jnB a b r=b∧jnL a b r=[]:=by simp [jnA,jnB,jnL,hk]
   refine E_seq ?_
   refine e_tidy_A37_2 [0,1,2,3,4,5,6,7,8,9,30] ?_
   refine E_drawD [0,1] mixed ?_
   refine d_load' 0 rfl rfl rfl rfl rfl (d_bp ty_27) ?_
   refine d_load' 2 rfl rfl rfl rfl rfl (d_bp ty_27) ?_
   refine d_any 1 [] ⟨?_,trivial⟩
   refine d_call 1 rfl rfl rfl rfl rfl ca_95 (c_impl_copyCracker a hb.1) ?_
   rintro r S ⟨rfl,rfl⟩
   refine d_any 3 [] ⟨?_,trivial⟩
   refine d_call 3 rfl rfl rfl rfl rfl ca_95 (c_impl_copyCracker b hb.2) ?_
   rintro r S ⟨rfl,rfl⟩
   refine d_any 4 [] ⟨?_,trivial⟩
   refine d_store' 4 rfl rfl rfl rfl rfl rfl (s_bp ty_27) ?_
   refine d_any 5 [] ⟨?_,trivial⟩
   refine d_store' 5 rfl rfl rfl rfl rfl rfl (s_bp ty_27) ?_
   refine d_pure' 6 rfl rfl rfl (L_assign rfl) ?_
   refine d_pure' 7 rfl rfl rfl (L_assign rfl) ?_
   refine D_done (by kernel_rfl) ?_
   refine E_ghostS 8 173 2 rfl (by decide) ?_
   refine E_ret ?_
   rw [hcc.1,hcc.2.1,hcc.2.2,hk]
   first
    | exact⟨_,[5,6,7,9,10,11,15],rfl,rfl,rfl,rfl⟩
    | exact⟨_,[5,6,7,8,9,10,11],rfl,rfl,rfl,rfl⟩
  exact Bool.noConfusion (hc30:true=false)
 refine l_ rfl (L_load rfl (xb6 ty_27)) ?_
 refine x_call rfl rfl rfl rfl rfl ca_28 (c_impl_IsCracker b) ?_
 rintro r S ⟨rfl,rfl⟩
 refine p_ rfl (L_not rfl rfl) ?_
 refine p_ rfl (L_pick rfl rfl) ?_
 refine xmv ?_
 refine EOps_split 26 (b:=_) rfl (fun hg26=>?_) (fun hg26=>?_)
 ·refine s_ rfl ?_
  refine s_ rfl ?_
  refine s_ rfl ?_
  refine p_ rfl (L_pick rfl rfl) ?_
  refine EOps_nil ?_
  refine E_cond rfl (fun hc30=>?_) (fun hc30=>?_)
  ·have hk : jnK a b r = false := by
    simp only [jnK]
    first|(simp_all;done)|simp_all
   have hcc:jnA a b r=a∧jnB a b r=b∧jnL a b r=[]:=by simp [jnA,jnB,jnL,hk]
   refine E_seq ?_
   refine e_tidy_A37_2 [0,1,2,3,4,5,6,7,8,9,30] ?_
   refine E_drawD [0,1] mixed ?_
   refine d_load' 0 rfl rfl rfl rfl rfl (d_bp ty_27) ?_
   refine d_load' 2 rfl rfl rfl rfl rfl (d_bp ty_27) ?_
   refine d_any 1 [] ⟨?_,trivial⟩
   refine d_call 1 rfl rfl rfl rfl rfl ca_95 (c_impl_copyCracker a hb.1) ?_
   rintro r S ⟨rfl,rfl⟩
   refine d_any 3 [] ⟨?_,trivial⟩
   refine d_call 3 rfl rfl rfl rfl rfl ca_95 (c_impl_copyCracker b hb.2) ?_
   rintro r S ⟨rfl,rfl⟩
   refine d_any 4 [] ⟨?_,trivial⟩
   refine d_store' 4 rfl rfl rfl rfl rfl rfl (s_bp ty_27) ?_
   refine d_any 5 [] ⟨?_,trivial⟩
   refine d_store' 5 rfl rfl rfl rfl rfl rfl (s_bp ty_27) ?_
   refine d_pure' 6 rfl rfl rfl (L_assign rfl) ?_
   refine d_pure' 7 rfl rfl rfl (L_assign rfl) ?_
   refine D_done (by kernel_rfl) ?_
   refine E_ghostS 8 173 2 rfl (by decide) ?_
   refine E_ret ?_
   rw [hcc.1,hcc.2.1,hcc.2.2,hk]
   first
    | exact⟨_,[5,6,7,9,10,11,15],rfl,rfl,rfl,rfl⟩
    | exact⟨_,[5,6,7,8,9,10,11],rfl,rfl,rfl,rfl⟩
  exact Bool.noConfusion (hc30:true=false)
 refine l_ rfl (L_load rfl (xb6 ty_41)) ?_
 refine x_call rfl rfl rfl rfl rfl ca_94 (c_impl_IsRange r) ?_
 rintro r S ⟨rfl,rfl⟩
 refine p_ rfl (L_not rfl rfl) ?_
 refine p_ rfl (L_pick rfl rfl) ?_
 refine EOps_nil ?_
 refine E_cond rfl (fun hc30=>?_) (fun hc30=>?_)
 ·have hk : jnK a b r = false := by
   simp only [jnK]
   first|(simp_all;done)|simp_all
  have hcc:jnA a b r=a∧jnB a b r=b∧jnL a b r=[]:=by simp [jnA,jnB,jnL,hk]
  refine E_seq ?_
  refine e_tidy_A37_2 [0,1,2,3,4,5,6,7,8,9,30] ?_
  refine E_drawD [0,1] mixed ?_
  refine d_load' 0 rfl rfl rfl rfl rfl (d_bp ty_27) ?_
  refine d_load' 2 rfl rfl rfl rfl rfl (d_bp ty_27) ?_
  refine d_any 1 [] ⟨?_,trivial⟩
  refine d_call 1 rfl rfl rfl rfl rfl ca_95 (c_impl_copyCracker a hb.1) ?_
  rintro r S ⟨rfl,rfl⟩
  refine d_any 3 [] ⟨?_,trivial⟩
  refine d_call 3 rfl rfl rfl rfl rfl ca_95 (c_impl_copyCracker b hb.2) ?_
  rintro r S ⟨rfl,rfl⟩
  refine d_any 4 [] ⟨?_,trivial⟩
  refine d_store' 4 rfl rfl rfl rfl rfl rfl (s_bp ty_27) ?_
  refine d_any 5 [] ⟨?_,trivial⟩
  refine d_store' 5 rfl rfl rfl rfl rfl rfl (s_bp ty_27) ?_
  refine d_pure' 6 rfl rfl rfl (L_assign rfl) ?_
  refine d_pure' 7 rfl rfl rfl (L_assign rfl) ?_
  refine D_done (by kernel_rfl) ?_
  refine E_ghostS 8 173 2 rfl (by decide) ?_
  refine E_ret ?_
  rw [hcc.1,hcc.2.1,hcc.2.2,hk]
  first
   | exact⟨_,[5,6,7,9,10,11,15],rfl,rfl,rfl,rfl⟩
   | exact⟨_,[5,6,7,8,9,10,11],rfl,rfl,rfl,rfl⟩
 have hk : jnK a b r = true := by
  simp only [jnK]
  simp_all
 obtain⟨hca,hcb,hr⟩:=jnK_parts hk
 have hka:selK a r=true:=by simp [selK,hca,hr]
 have hkb:selK b r=true:=by simp [selK,hcb,hr]
 obtain⟨a1,a2,a3,a4,a5⟩:=sel_in hka
 obtain⟨b1,b2,b3,b4,b5⟩:=sel_in hkb
 have hla:=crk_lens a1
 have hlb:=crk_lens b1
 have hcc:jnA a b r=selC a r∧jnB a b r=selC b r∧jnL a b r=matL (jnE a r) (jnE b r):=by simp [jnA,jnB,jnL,hk]
 have hln:=matL_len (jnE_len hka) (jnE_len hkb)
 refine E_skip ?_
 refine E_seq ?_
 refine e_tidy_A37_2 [0,1,2,3,4,5,6,7,8,9,30] ?_
 refine E_region' (L:=[0,1,2,3,4,5,6,7,8,9,10,11,12]) rfl ?_
 refine l_ rfl (L_load rfl (xb0 ty_27)) ?_
 refine l_ rfl (L_load rfl (xb0 ty_41)) ?_
 refine x_call rfl rfl rfl rfl rfl ca_19 (c_impl_SelectRange a r hb.1) ?_
 rintro r S ⟨rfl,rfl⟩
 refine xmv ?_
 refine p_ rfl (L_extract rfl rfl) ?_
 refine p_ rfl (L_extract rfl rfl) ?_
 refine p_ rfl (L_extract rfl rfl) ?_
 refine p_ rfl (L_extract rfl rfl) ?_
 refine x_alloc rfl rfl rfl rfl za_27 ?_
 refine EOps_go rfl rfl (EOp_store rfl rfl rfl (xb1 ty_27) ?_)
 refine xas ?_
 refine xas ?_
 refine xas ?_
 refine EOps_nil ?_
 refine E_seq ?_
 refine e_tidy_A37_2 [0,1,2,3,4,5,6,7,8,9,10,11,12,30] ?_
 refine E_region' (L:=[0,1,2,3,4,5,6,7,8,9,10,11,12]) rfl ?_
 refine l_ rfl (L_load rfl (xb0 ty_27)) ?_
 refine l_ rfl (L_load rfl (xb0 ty_41)) ?_
 refine x_call rfl rfl rfl rfl rfl ca_19 (c_impl_SelectRange b r hb.2) ?_
 rintro r S ⟨rfl,rfl⟩
 refine xmv ?_
 refine p_ rfl (L_extract rfl rfl) ?_
 refine p_ rfl (L_extract rfl rfl) ?_
 refine p_ rfl (L_extract rfl rfl) ?_
 refine p_ rfl (L_extract rfl rfl) ?_
 refine x_alloc rfl rfl rfl rfl za_27 ?_
 refine EOps_go rfl rfl (EOp_store rfl rfl rfl (xb1 ty_27) ?_)
 refine xas ?_
 refine xas ?_
 refine xas ?_
 refine EOps_nil ?_
 refine E_seq ?_
 refine e_tidy_A37_2 [0,1,2,3,4,5,6,7,8,9,10,11,12,14,15,16,30] ?_
 refine E_drawD [8,12] mixed ?_
 refine d_pure' 3 rfl rfl rfl (L_move rfl) ?_
 refine d_pure' 4 rfl rfl rfl (L_move rfl) ?_
 refine d_pure' 7 rfl rfl rfl (L_move rfl) ?_
 refine d_pure' 8 rfl rfl rfl (L_move rfl) ?_
 refine d_load' 0 rfl rfl rfl rfl rfl (d_bp ty_27) ?_
 refine d_load' 1 rfl rfl rfl rfl rfl (d_bp ty_27) ?_
 refine d_load' 2 rfl rfl rfl rfl rfl (d_bp ty_27) ?_
 refine d_load' 6 rfl rfl rfl rfl rfl (d_bp ty_27) ?_
 refine d_any 5 [] ⟨?_,trivial⟩
 refine d_call 5 rfl rfl rfl rfl rfl ca_156 (c_impl_elements (selC a r) (selLo a r) (selHi a r) ⟨a2,a3,a4,hla.2.1,hla.1⟩) ?_
 rintro r S ⟨rfl,rfl⟩
 refine d_any 9 [] ⟨?_,trivial⟩
 refine d_call 9 rfl rfl rfl rfl rfl ca_156 (c_impl_elements (selC b r) (selLo b r) (selHi b r) ⟨b2,b3,b4,hlb.2.1,hlb.1⟩) ?_
 rintro r S ⟨rfl,rfl⟩
 refine d_any 10 [] ⟨?_,trivial⟩
 refine d_call 10 rfl rfl rfl rfl rfl ca_155 (c_impl_match (jnE a r) (jnE b r) (jnE_len hka) (jnE_len hkb)) ?_ (ha:=by refine cons_eq ?_ (cons_eq ?_ rfl)<;>(refine lend_whole rfl ?_;simp only [pairs_len,jnE,elemsN_len]))
 rintro r S ⟨rfl,rfl⟩
 refine d_any 11 [] ⟨?_,trivial⟩
 refine d_store' 11 rfl rfl rfl rfl rfl rfl (s_bp ty_27) ?_
 refine d_any 12 [] ⟨?_,trivial⟩
 refine d_store' 12 rfl rfl rfl rfl rfl rfl (s_bp ty_27) ?_
 refine d_pure' 13 rfl rfl rfl (L_assign rfl) ?_
 refine d_pure' 14 rfl rfl rfl (L_assign rfl) ?_
 refine D_done (by kernel_rfl) ?_
 refine E_ret ?_
 rw [hcc.1,hcc.2.1,hcc.2.2,hk]
 first
  | exact⟨_,[5,6,7,9,10,11,15],rfl,rfl,rfl,rfl⟩
  | exact⟨_,[5,6,7,8,9,10,11],rfl,rfl,rfl,rfl⟩

set_option maxRecDepth 20000 in
set_option maxHeartbeats 8000000 in
theorem c_spec_JoinRange (a b : Crk) (r : Int × Int) (hb : (a.vals.length ≤ 1048576 ∧ a.rows.length ≤ 1048576 ∧ a.piv.length ≤ 1048576) ∧ b.vals.length ≤ 1048576 ∧ b.rows.length ≤ 1048576 ∧ b.piv.length ≤ 1048576) : EFn Try.prog 68 [.agg (crkC a), .agg (crkC b), .agg [.sc (.int .i64 r.1), .sc (.int .i64 r.2)]] [] (fun y S => y = .tup [(true, crkO 0 (jnA a b r)), (true, crkO 3 (jnB a b r)), (false, [.sl 6 0 (jnL a b r).length (jnL a b r).length]), (false, [.sc (.bool (jnK a b r))])] ∧ S = crkR 3 129 (jnA a b r) ++ crkR 3 129 (jnB a b r) ++ [.row 173 2 (pairs (jnL a b r))]) := by
 refine E_fn Try.func68 rfl (Nat.le_of_ble_eq_true rfl) ?_
 refine E_seq ?_
 refine E_region' (L:=[0,1,2,3,4,5,6]) rfl ?_
 refine x_box rfl rfl rfl rfl rfl ?_
 refine x_box rfl rfl rfl rfl rfl ?_
 refine x_box rfl rfl rfl rfl rfl ?_
 refine x_alloc rfl rfl rfl rfl za_27 ?_
 refine x_alloc rfl rfl rfl rfl za_27 ?_
 refine xas ?_
 refine xas ?_
 refine EOps_nil ?_
 refine E_seq ?_
 refine E_seq ?_
 refine e_tidy_A37_2 [0,1,2,3,4,5,6,7,8,9] ?_
 refine E_region' (L:=[0,1,2,3,4,5,6,7,8,9,10,11,12]) rfl ?_
 refine l_ rfl (L_load rfl (xb0 ty_27)) ?_
 refine x_call rfl rfl rfl rfl rfl ca_21 (c_spec_IsCracker a) ?_
 rintro r S ⟨rfl,rfl⟩
 refine p_ rfl (L_not rfl rfl) ?_
 refine xmv ?_
 refine EOps_split 21 (b:=_) rfl (fun hg21=>?_) (fun hg21=>?_)
 ·refine s_ rfl ?_
  refine s_ rfl ?_
  refine s_ rfl ?_
  refine p_ rfl (L_pick rfl rfl) ?_
  refine xmv ?_
  refine s_ rfl ?_
  refine s_ rfl ?_
  refine s_ rfl ?_
  refine p_ rfl (L_pick rfl rfl) ?_
  refine EOps_nil ?_
  refine E_cond rfl (fun hc30=>?_) (fun hc30=>?_)
  ·have hk : jnK a b r = false := by
    simp only [jnK]
    first|(simp_all;done)|simp_all
   have hcc:jnA a b r=a∧jnB a b r=b∧jnL a b r=[]:=by simp [jnA,jnB,jnL,hk]
   refine E_seq ?_
   refine e_tidy_A37_2 [0,1,2,3,4,5,6,7,8,9,30] ?_
   refine E_drawD [0,1] mixed ?_
   refine d_load' 0 rfl rfl rfl rfl rfl (d_bp ty_27) ?_
   refine d_load' 2 rfl rfl rfl rfl rfl (d_bp ty_27) ?_
   refine d_any 1 [4] ⟨?_,?_,trivial⟩
   ·refine d_call 1 rfl rfl rfl rfl rfl ca_84 (c_spec_l4Copy a hb.1) ?_
    rintro r S ⟨rfl,rfl⟩
    refine d_any 3 [4] ⟨?_,?_,trivial⟩
    ·refine d_call 3 rfl rfl rfl rfl rfl ca_84 (c_spec_l4Copy b hb.2) ?_
     rintro r S ⟨rfl,rfl⟩
     refine d_any 4 [5] ⟨?_,?_,trivial⟩
     ·refine d_heavy 4 rfl rfl (H_bslice rfl rfl (by decide) sl_102 ty_173 za_173 ⟨rfl, by decide⟩ (by decide) rfl rfl rfl rfl ?_)
      refine d_any 5 [] ⟨?_,trivial⟩
      refine d_store' 5 rfl rfl rfl rfl rfl rfl (s_bp ty_27) ?_
      refine d_any 6 [] ⟨?_,trivial⟩
      refine d_store' 6 rfl rfl rfl rfl rfl rfl (s_bp ty_27) ?_
      refine d_pure' 7 rfl rfl rfl (L_assign rfl) ?_
      refine d_pure' 8 rfl rfl rfl (L_assign rfl) ?_
      refine D_done (by kernel_rfl) ?_
      refine E_ret ?_
      rw [hcc.1,hcc.2.1,hcc.2.2,hk]
      first
       | exact⟨_,[5,6,7,9,10,11,15],rfl,rfl,rfl,rfl⟩
       | exact⟨_,[5,6,7,8,9,10,11],rfl,rfl,rfl,rfl⟩
       | exact⟨_,[6,7,8,9,10,11,5],rfl,rfl,rfl,rfl⟩
       | exact⟨_,[5,6,7,9,10,11,8],rfl,rfl,rfl,rfl⟩
     refine d_store' 5 rfl rfl rfl rfl rfl rfl (s_bp ty_27) ?_
     refine d_any 4 [6] ⟨?_,?_,trivial⟩
     ·refine d_heavy 4 rfl rfl (H_bslice rfl rfl (by decide) sl_102 ty_173 za_173 ⟨rfl, by decide⟩ (by decide) rfl rfl rfl rfl ?_)
      refine d_any 6 [] ⟨?_,trivial⟩
      refine d_store' 6 rfl rfl rfl rfl rfl rfl (s_bp ty_27) ?_
      refine d_pure' 7 rfl rfl rfl (L_assign rfl) ?_
      refine d_pure' 8 rfl rfl rfl (L_assign rfl) ?_
      refine D_done (by kernel_rfl) ?_
      refine E_ret ?_
      rw [hcc.1,hcc.2.1,hcc.2.2,hk]
      first
       | exact⟨_,[5,6,7,9,10,11,15],rfl,rfl,rfl,rfl⟩
       | exact⟨_,[5,6,7,8,9,10,11],rfl,rfl,rfl,rfl⟩
       | exact⟨_,[6,7,8,9,10,11,5],rfl,rfl,rfl,rfl⟩
       | exact⟨_,[5,6,7,9,10,11,8],rfl,rfl,rfl,rfl⟩
     refine d_store' 6 rfl rfl rfl rfl rfl rfl (s_bp ty_27) ?_
     refine d_any 4 [] ⟨?_,trivial⟩
     refine d_heavy 4 rfl rfl (H_bslice rfl rfl (by decide) sl_102 ty_173 za_173 ⟨rfl,by decide⟩ (by decide) rfl rfl rfl rfl ?_)
     refine d_pure' 7 rfl rfl rfl (L_assign rfl) ?_
     refine d_pure' 8 rfl rfl rfl (L_assign rfl) ?_
     refine D_done (by kernel_rfl) ?_
     refine E_ret ?_
     rw [hcc.1,hcc.2.1,hcc.2.2,hk]
     first
      | exact⟨_,[5,6,7,9,10,11,15],rfl,rfl,rfl,rfl⟩
      | exact⟨_,[5,6,7,8,9,10,11],rfl,rfl,rfl,rfl⟩
      | exact⟨_,[6,7,8,9,10,11,5],rfl,rfl,rfl,rfl⟩
      | exact⟨_,[5,6,7,9,10,11,8],rfl,rfl,rfl,rfl⟩
    refine d_heavy 4 rfl rfl (H_bslice rfl rfl (by decide) sl_102 ty_173 za_173 ⟨rfl, by decide⟩ (by decide) rfl rfl rfl rfl ?_)
    refine d_any 3 [] ⟨?_,trivial⟩
    refine d_call 3 rfl rfl rfl rfl rfl ca_84 (c_spec_l4Copy b hb.2) ?_
    rintro r S ⟨rfl,rfl⟩
    refine d_any 5 [] ⟨?_,trivial⟩
    refine d_store' 5 rfl rfl rfl rfl rfl rfl (s_bp ty_27) ?_
    refine d_any 6 [] ⟨?_,trivial⟩
    refine d_store' 6 rfl rfl rfl rfl rfl rfl (s_bp ty_27) ?_
    refine d_pure' 7 rfl rfl rfl (L_assign rfl) ?_
    refine d_pure' 8 rfl rfl rfl (L_assign rfl) ?_
    refine D_done (by kernel_rfl) ?_
    refine E_ret ?_
    rw [hcc.1,hcc.2.1,hcc.2.2,hk]
    first
     | exact⟨_,[5,6,7,9,10,11,15],rfl,rfl,rfl,rfl⟩
     | exact⟨_,[5,6,7,8,9,10,11],rfl,rfl,rfl,rfl⟩
     | exact⟨_,[6,7,8,9,10,11,5],rfl,rfl,rfl,rfl⟩
     | exact⟨_,[5,6,7,9,10,11,8],rfl,rfl,rfl,rfl⟩
   refine d_heavy 4 rfl rfl (H_bslice rfl rfl (by decide) sl_102 ty_173 za_173 ⟨rfl, by decide⟩ (by decide) rfl rfl rfl rfl ?_)
   refine d_any 1 [] ⟨?_,trivial⟩
   refine d_call 1 rfl rfl rfl rfl rfl ca_84 (c_spec_l4Copy a hb.1) ?_
   rintro r S ⟨rfl,rfl⟩
   refine d_any 3 [] ⟨?_,trivial⟩
   refine d_call 3 rfl rfl rfl rfl rfl ca_84 (c_spec_l4Copy b hb.2) ?_
   rintro r S ⟨rfl,rfl⟩
   refine d_any 5 [] ⟨?_,trivial⟩
   refine d_store' 5 rfl rfl rfl rfl rfl rfl (s_bp ty_27) ?_
   refine d_any 6 [] ⟨?_,trivial⟩
   refine d_store' 6 rfl rfl rfl rfl rfl rfl (s_bp ty_27) ?_
   refine d_pure' 7 rfl rfl rfl (L_assign rfl) ?_
   refine d_pure' 8 rfl rfl rfl (L_assign rfl) ?_
   refine D_done (by kernel_rfl) ?_
   refine E_ret ?_
   rw [hcc.1,hcc.2.1,hcc.2.2,hk]
   first
    | exact⟨_,[5,6,7,9,10,11,15],rfl,rfl,rfl,rfl⟩
    | exact⟨_,[5,6,7,8,9,10,11],rfl,rfl,rfl,rfl⟩
    | exact⟨_,[6,7,8,9,10,11,5],rfl,rfl,rfl,rfl⟩
    | exact⟨_,[5,6,7,9,10,11,8],rfl,rfl,rfl,rfl⟩
  exact Bool.noConfusion (hc30:true=false)
 refine l_ rfl (L_load rfl (xb6 ty_27)) ?_
 refine x_call rfl rfl rfl rfl rfl ca_21 (c_spec_IsCracker b) ?_
 rintro r S ⟨rfl,rfl⟩
 refine p_ rfl (L_not rfl rfl) ?_
 refine p_ rfl (L_pick rfl rfl) ?_
 refine xmv ?_
 refine EOps_split 26 (b:=_) rfl (fun hg26=>?_) (fun hg26=>?_)
 ·refine s_ rfl ?_
  refine s_ rfl ?_
  refine s_ rfl ?_
  refine p_ rfl (L_pick rfl rfl) ?_
  refine EOps_nil ?_
  refine E_cond rfl (fun hc30=>?_) (fun hc30=>?_)
  ·have hk : jnK a b r = false := by
    simp only [jnK]
    first|(simp_all;done)|simp_all
   have hcc:jnA a b r=a∧jnB a b r=b∧jnL a b r=[]:=by simp [jnA,jnB,jnL,hk]
   refine E_seq ?_
   refine e_tidy_A37_2 [0,1,2,3,4,5,6,7,8,9,30] ?_
   refine E_drawD [0,1] mixed ?_
   refine d_load' 0 rfl rfl rfl rfl rfl (d_bp ty_27) ?_
   refine d_load' 2 rfl rfl rfl rfl rfl (d_bp ty_27) ?_
   refine d_any 1 [4] ⟨?_,?_,trivial⟩
   ·refine d_call 1 rfl rfl rfl rfl rfl ca_84 (c_spec_l4Copy a hb.1) ?_
    rintro r S ⟨rfl,rfl⟩
    refine d_any 3 [4] ⟨?_,?_,trivial⟩
    ·refine d_call 3 rfl rfl rfl rfl rfl ca_84 (c_spec_l4Copy b hb.2) ?_
     rintro r S ⟨rfl,rfl⟩
     refine d_any 4 [5] ⟨?_,?_,trivial⟩
     ·refine d_heavy 4 rfl rfl (H_bslice rfl rfl (by decide) sl_102 ty_173 za_173 ⟨rfl, by decide⟩ (by decide) rfl rfl rfl rfl ?_)
      refine d_any 5 [] ⟨?_,trivial⟩
      refine d_store' 5 rfl rfl rfl rfl rfl rfl (s_bp ty_27) ?_
      refine d_any 6 [] ⟨?_,trivial⟩
      refine d_store' 6 rfl rfl rfl rfl rfl rfl (s_bp ty_27) ?_
      refine d_pure' 7 rfl rfl rfl (L_assign rfl) ?_
      refine d_pure' 8 rfl rfl rfl (L_assign rfl) ?_
      refine D_done (by kernel_rfl) ?_
      refine E_ret ?_
      rw [hcc.1,hcc.2.1,hcc.2.2,hk]
      first
       | exact⟨_,[5,6,7,9,10,11,15],rfl,rfl,rfl,rfl⟩
       | exact⟨_,[5,6,7,8,9,10,11],rfl,rfl,rfl,rfl⟩
       | exact⟨_,[6,7,8,9,10,11,5],rfl,rfl,rfl,rfl⟩
       | exact⟨_,[5,6,7,9,10,11,8],rfl,rfl,rfl,rfl⟩
     refine d_store' 5 rfl rfl rfl rfl rfl rfl (s_bp ty_27) ?_
     refine d_any 4 [6] ⟨?_,?_,trivial⟩
     ·refine d_heavy 4 rfl rfl (H_bslice rfl rfl (by decide) sl_102 ty_173 za_173 ⟨rfl, by decide⟩ (by decide) rfl rfl rfl rfl ?_)
      refine d_any 6 [] ⟨?_,trivial⟩
      refine d_store' 6 rfl rfl rfl rfl rfl rfl (s_bp ty_27) ?_
      refine d_pure' 7 rfl rfl rfl (L_assign rfl) ?_
      refine d_pure' 8 rfl rfl rfl (L_assign rfl) ?_
      refine D_done (by kernel_rfl) ?_
      refine E_ret ?_
      rw [hcc.1,hcc.2.1,hcc.2.2,hk]
      first
       | exact⟨_,[5,6,7,9,10,11,15],rfl,rfl,rfl,rfl⟩
       | exact⟨_,[5,6,7,8,9,10,11],rfl,rfl,rfl,rfl⟩
       | exact⟨_,[6,7,8,9,10,11,5],rfl,rfl,rfl,rfl⟩
       | exact⟨_,[5,6,7,9,10,11,8],rfl,rfl,rfl,rfl⟩
     refine d_store' 6 rfl rfl rfl rfl rfl rfl (s_bp ty_27) ?_
     refine d_any 4 [] ⟨?_,trivial⟩
     refine d_heavy 4 rfl rfl (H_bslice rfl rfl (by decide) sl_102 ty_173 za_173 ⟨rfl,by decide⟩ (by decide) rfl rfl rfl rfl ?_)
     refine d_pure' 7 rfl rfl rfl (L_assign rfl) ?_
     refine d_pure' 8 rfl rfl rfl (L_assign rfl) ?_
     refine D_done (by kernel_rfl) ?_
     refine E_ret ?_
     rw [hcc.1,hcc.2.1,hcc.2.2,hk]
     first
      | exact⟨_,[5,6,7,9,10,11,15],rfl,rfl,rfl,rfl⟩
      | exact⟨_,[5,6,7,8,9,10,11],rfl,rfl,rfl,rfl⟩
      | exact⟨_,[6,7,8,9,10,11,5],rfl,rfl,rfl,rfl⟩
      | exact⟨_,[5,6,7,9,10,11,8],rfl,rfl,rfl,rfl⟩
    refine d_heavy 4 rfl rfl (H_bslice rfl rfl (by decide) sl_102 ty_173 za_173 ⟨rfl, by decide⟩ (by decide) rfl rfl rfl rfl ?_)
    refine d_any 3 [] ⟨?_,trivial⟩
    refine d_call 3 rfl rfl rfl rfl rfl ca_84 (c_spec_l4Copy b hb.2) ?_
    rintro r S ⟨rfl,rfl⟩
    refine d_any 5 [] ⟨?_,trivial⟩
    refine d_store' 5 rfl rfl rfl rfl rfl rfl (s_bp ty_27) ?_
    refine d_any 6 [] ⟨?_,trivial⟩
    refine d_store' 6 rfl rfl rfl rfl rfl rfl (s_bp ty_27) ?_
    refine d_pure' 7 rfl rfl rfl (L_assign rfl) ?_
    refine d_pure' 8 rfl rfl rfl (L_assign rfl) ?_
    refine D_done (by kernel_rfl) ?_
    refine E_ret ?_
    rw [hcc.1,hcc.2.1,hcc.2.2,hk]
    first
     | exact⟨_,[5,6,7,9,10,11,15],rfl,rfl,rfl,rfl⟩
     | exact⟨_,[5,6,7,8,9,10,11],rfl,rfl,rfl,rfl⟩
     | exact⟨_,[6,7,8,9,10,11,5],rfl,rfl,rfl,rfl⟩
     | exact⟨_,[5,6,7,9,10,11,8],rfl,rfl,rfl,rfl⟩
   refine d_heavy 4 rfl rfl (H_bslice rfl rfl (by decide) sl_102 ty_173 za_173 ⟨rfl, by decide⟩ (by decide) rfl rfl rfl rfl ?_)
   refine d_any 1 [] ⟨?_,trivial⟩
   refine d_call 1 rfl rfl rfl rfl rfl ca_84 (c_spec_l4Copy a hb.1) ?_
   rintro r S ⟨rfl,rfl⟩
   refine d_any 3 [] ⟨?_,trivial⟩
   refine d_call 3 rfl rfl rfl rfl rfl ca_84 (c_spec_l4Copy b hb.2) ?_
   rintro r S ⟨rfl,rfl⟩
   refine d_any 5 [] ⟨?_,trivial⟩
   refine d_store' 5 rfl rfl rfl rfl rfl rfl (s_bp ty_27) ?_
   refine d_any 6 [] ⟨?_,trivial⟩
   refine d_store' 6 rfl rfl rfl rfl rfl rfl (s_bp ty_27) ?_
   refine d_pure' 7 rfl rfl rfl (L_assign rfl) ?_
   refine d_pure' 8 rfl rfl rfl (L_assign rfl) ?_
   refine D_done (by kernel_rfl) ?_
   refine E_ret ?_
   rw [hcc.1,hcc.2.1,hcc.2.2,hk]
   first
    | exact⟨_,[5,6,7,9,10,11,15],rfl,rfl,rfl,rfl⟩
    | exact⟨_,[5,6,7,8,9,10,11],rfl,rfl,rfl,rfl⟩
    | exact⟨_,[6,7,8,9,10,11,5],rfl,rfl,rfl,rfl⟩
    | exact⟨_,[5,6,7,9,10,11,8],rfl,rfl,rfl,rfl⟩
  exact Bool.noConfusion (hc30:true=false)
 refine l_ rfl (L_load rfl (xb6 ty_41)) ?_
 refine x_call rfl rfl rfl rfl rfl ca_22 (c_spec_IsRange r) ?_
 rintro r S ⟨rfl,rfl⟩
 refine p_ rfl (L_not rfl rfl) ?_
 refine p_ rfl (L_pick rfl rfl) ?_
 refine EOps_nil ?_
 refine E_cond rfl (fun hc30=>?_) (fun hc30=>?_)
 ·have hk : jnK a b r = false := by
   simp only [jnK]
   first|(simp_all;done)|simp_all
  have hcc:jnA a b r=a∧jnB a b r=b∧jnL a b r=[]:=by simp [jnA,jnB,jnL,hk]
  refine E_seq ?_
  refine e_tidy_A37_2 [0,1,2,3,4,5,6,7,8,9,30] ?_
  refine E_drawD [0,1] mixed ?_
  refine d_load' 0 rfl rfl rfl rfl rfl (d_bp ty_27) ?_
  refine d_load' 2 rfl rfl rfl rfl rfl (d_bp ty_27) ?_
  refine d_any 1 [4] ⟨?_,?_,trivial⟩
  ·refine d_call 1 rfl rfl rfl rfl rfl ca_84 (c_spec_l4Copy a hb.1) ?_
   rintro r S ⟨rfl,rfl⟩
   refine d_any 3 [4] ⟨?_,?_,trivial⟩
   ·refine d_call 3 rfl rfl rfl rfl rfl ca_84 (c_spec_l4Copy b hb.2) ?_
    rintro r S ⟨rfl,rfl⟩
    refine d_any 4 [5] ⟨?_,?_,trivial⟩
    ·refine d_heavy 4 rfl rfl (H_bslice rfl rfl (by decide) sl_102 ty_173 za_173 ⟨rfl, by decide⟩ (by decide) rfl rfl rfl rfl ?_)
     refine d_any 5 [] ⟨?_,trivial⟩
     refine d_store' 5 rfl rfl rfl rfl rfl rfl (s_bp ty_27) ?_
     refine d_any 6 [] ⟨?_,trivial⟩
     refine d_store' 6 rfl rfl rfl rfl rfl rfl (s_bp ty_27) ?_
     refine d_pure' 7 rfl rfl rfl (L_assign rfl) ?_
     refine d_pure' 8 rfl rfl rfl (L_assign rfl) ?_
     refine D_done (by kernel_rfl) ?_
     refine E_ret ?_
     rw [hcc.1,hcc.2.1,hcc.2.2,hk]
     first
      | exact⟨_,[5,6,7,9,10,11,15],rfl,rfl,rfl,rfl⟩
      | exact⟨_,[5,6,7,8,9,10,11],rfl,rfl,rfl,rfl⟩
      | exact⟨_,[6,7,8,9,10,11,5],rfl,rfl,rfl,rfl⟩
      | exact⟨_,[5,6,7,9,10,11,8],rfl,rfl,rfl,rfl⟩
    refine d_store' 5 rfl rfl rfl rfl rfl rfl (s_bp ty_27) ?_
    refine d_any 4 [6] ⟨?_,?_,trivial⟩
    ·refine d_heavy 4 rfl rfl (H_bslice rfl rfl (by decide) sl_102 ty_173 za_173 ⟨rfl, by decide⟩ (by decide) rfl rfl rfl rfl ?_)
     refine d_any 6 [] ⟨?_,trivial⟩
     refine d_store' 6 rfl rfl rfl rfl rfl rfl (s_bp ty_27) ?_
     refine d_pure' 7 rfl rfl rfl (L_assign rfl) ?_
     refine d_pure' 8 rfl rfl rfl (L_assign rfl) ?_
     refine D_done (by kernel_rfl) ?_
     refine E_ret ?_
     rw [hcc.1,hcc.2.1,hcc.2.2,hk]
     first
      | exact⟨_,[5,6,7,9,10,11,15],rfl,rfl,rfl,rfl⟩
      | exact⟨_,[5,6,7,8,9,10,11],rfl,rfl,rfl,rfl⟩
      | exact⟨_,[6,7,8,9,10,11,5],rfl,rfl,rfl,rfl⟩
      | exact⟨_,[5,6,7,9,10,11,8],rfl,rfl,rfl,rfl⟩
    refine d_store' 6 rfl rfl rfl rfl rfl rfl (s_bp ty_27) ?_
    refine d_any 4 [] ⟨?_,trivial⟩
    refine d_heavy 4 rfl rfl (H_bslice rfl rfl (by decide) sl_102 ty_173 za_173 ⟨rfl,by decide⟩ (by decide) rfl rfl rfl rfl ?_)
    refine d_pure' 7 rfl rfl rfl (L_assign rfl) ?_
    refine d_pure' 8 rfl rfl rfl (L_assign rfl) ?_
    refine D_done (by kernel_rfl) ?_
    refine E_ret ?_
    rw [hcc.1,hcc.2.1,hcc.2.2,hk]
    first
     | exact⟨_,[5,6,7,9,10,11,15],rfl,rfl,rfl,rfl⟩
     | exact⟨_,[5,6,7,8,9,10,11],rfl,rfl,rfl,rfl⟩
     | exact⟨_,[6,7,8,9,10,11,5],rfl,rfl,rfl,rfl⟩
     | exact⟨_,[5,6,7,9,10,11,8],rfl,rfl,rfl,rfl⟩
   refine d_heavy 4 rfl rfl (H_bslice rfl rfl (by decide) sl_102 ty_173 za_173 ⟨rfl, by decide⟩ (by decide) rfl rfl rfl rfl ?_)
   refine d_any 3 [] ⟨?_,trivial⟩
   refine d_call 3 rfl rfl rfl rfl rfl ca_84 (c_spec_l4Copy b hb.2) ?_
   rintro r S ⟨rfl,rfl⟩
   refine d_any 5 [] ⟨?_,trivial⟩
   refine d_store' 5 rfl rfl rfl rfl rfl rfl (s_bp ty_27) ?_
   refine d_any 6 [] ⟨?_,trivial⟩
   refine d_store' 6 rfl rfl rfl rfl rfl rfl (s_bp ty_27) ?_
   refine d_pure' 7 rfl rfl rfl (L_assign rfl) ?_
   refine d_pure' 8 rfl rfl rfl (L_assign rfl) ?_
   refine D_done (by kernel_rfl) ?_
   refine E_ret ?_
   rw [hcc.1,hcc.2.1,hcc.2.2,hk]
   first
    | exact⟨_,[5,6,7,9,10,11,15],rfl,rfl,rfl,rfl⟩
    | exact⟨_,[5,6,7,8,9,10,11],rfl,rfl,rfl,rfl⟩
    | exact⟨_,[6,7,8,9,10,11,5],rfl,rfl,rfl,rfl⟩
    | exact⟨_,[5,6,7,9,10,11,8],rfl,rfl,rfl,rfl⟩
  refine d_heavy 4 rfl rfl (H_bslice rfl rfl (by decide) sl_102 ty_173 za_173 ⟨rfl, by decide⟩ (by decide) rfl rfl rfl rfl ?_)
  refine d_any 1 [] ⟨?_,trivial⟩
  refine d_call 1 rfl rfl rfl rfl rfl ca_84 (c_spec_l4Copy a hb.1) ?_
  rintro r S ⟨rfl,rfl⟩
  refine d_any 3 [] ⟨?_,trivial⟩
  refine d_call 3 rfl rfl rfl rfl rfl ca_84 (c_spec_l4Copy b hb.2) ?_
  rintro r S ⟨rfl,rfl⟩
  refine d_any 5 [] ⟨?_,trivial⟩
  refine d_store' 5 rfl rfl rfl rfl rfl rfl (s_bp ty_27) ?_
  refine d_any 6 [] ⟨?_,trivial⟩
  refine d_store' 6 rfl rfl rfl rfl rfl rfl (s_bp ty_27) ?_
  refine d_pure' 7 rfl rfl rfl (L_assign rfl) ?_
  refine d_pure' 8 rfl rfl rfl (L_assign rfl) ?_
  refine D_done (by kernel_rfl) ?_
  refine E_ret ?_
  rw [hcc.1,hcc.2.1,hcc.2.2,hk]
  first
   | exact⟨_,[5,6,7,9,10,11,15],rfl,rfl,rfl,rfl⟩
   | exact⟨_,[5,6,7,8,9,10,11],rfl,rfl,rfl,rfl⟩
   | exact⟨_,[6,7,8,9,10,11,5],rfl,rfl,rfl,rfl⟩
   | exact⟨_,[5,6,7,9,10,11,8],rfl,rfl,rfl,rfl⟩
 have hk : jnK a b r = true := by
  simp only [jnK]
  simp_all
 obtain⟨hca,hcb,hr⟩:=jnK_parts hk
 have hka:selK a r=true:=by simp [selK,hca,hr]
 have hkb:selK b r=true:=by simp [selK,hcb,hr]
 obtain⟨a1,a2,a3,a4,a5⟩:=sel_in hka
 obtain⟨b1,b2,b3,b4,b5⟩:=sel_in hkb
 have hla:=crk_lens a1
 have hlb:=crk_lens b1
 have hcc:jnA a b r=selC a r∧jnB a b r=selC b r∧jnL a b r=matL (jnE a r) (jnE b r):=by simp [jnA,jnB,jnL,hk]
 have hln:=matL_len (jnE_len hka) (jnE_len hkb)
 obtain⟨u,hu⟩:∃ u:Nat,selLo a r=u:=⟨_,(Int.toNat_of_nonneg a2).symm⟩
 obtain⟨w,hw⟩:∃ w:Nat,selHi a r=w:=⟨(selHi a r).toNat,by omega⟩
 obtain⟨u',hu'⟩:∃ u:Nat,selLo b r=u:=⟨_,(Int.toNat_of_nonneg b2).symm⟩
 obtain⟨w',hw'⟩:∃ w:Nat,selHi b r=w:=⟨(selHi b r).toNat,by omega⟩
 have hjn:=jn_eq hka hkb hu hw hu' hw'
 refine E_skip ?_
 refine E_seq ?_
 refine e_tidy_A37_2 [0,1,2,3,4,5,6,7,8,9,30] ?_
 refine E_region' (L:=[0,1,2,3,4,5,6,7,8,9,10,11,12]) rfl ?_
 refine l_ rfl (L_load rfl (xb0 ty_27)) ?_
 refine l_ rfl (L_load rfl (xb0 ty_41)) ?_
 refine x_call rfl rfl rfl rfl rfl ca_20 (c_spec_SelectRange a r hb.1) ?_
 rintro r S ⟨rfl,rfl⟩
 rw [hu,hw]
 refine xmv ?_
 refine p_ rfl (L_extract rfl rfl) ?_
 refine p_ rfl (L_extract rfl rfl) ?_
 refine p_ rfl (L_extract rfl rfl) ?_
 refine p_ rfl (L_extract rfl rfl) ?_
 refine x_alloc rfl rfl rfl rfl za_27 ?_
 refine EOps_go rfl rfl (EOp_store rfl rfl rfl (xb1 ty_27) ?_)
 refine xas ?_
 refine xas ?_
 refine xas ?_
 refine EOps_nil ?_
 refine E_seq ?_
 refine e_tidy_A37_2 [0,1,2,3,4,5,6,7,8,9,10,11,12,30] ?_
 refine E_region' (L:=[0,1,2,3,4,5,6,7,8,9,10,11,12]) rfl ?_
 refine l_ rfl (L_load rfl (xb0 ty_27)) ?_
 refine l_ rfl (L_load rfl (xb0 ty_41)) ?_
 refine x_call rfl rfl rfl rfl rfl ca_20 (c_spec_SelectRange b r hb.2) ?_
 rintro r S ⟨rfl,rfl⟩
 rw [hu',hw']
 refine xmv ?_
 refine p_ rfl (L_extract rfl rfl) ?_
 refine p_ rfl (L_extract rfl rfl) ?_
 refine p_ rfl (L_extract rfl rfl) ?_
 refine p_ rfl (L_extract rfl rfl) ?_
 refine x_alloc rfl rfl rfl rfl za_27 ?_
 refine EOps_go rfl rfl (EOp_store rfl rfl rfl (xb1 ty_27) ?_)
 refine xas ?_
 refine xas ?_
 refine xas ?_
 refine EOps_nil ?_
 refine E_seq ?_
 refine e_tidy_A37_2 [0,1,2,3,4,5,6,7,8,9,10,11,12,14,15,16,30] ?_
 refine E_drawD [8,12,2] mixed ?_
 refine d_pure' 3 rfl rfl rfl (L_move rfl) ?_
 refine d_pure' 4 rfl rfl rfl (L_move rfl) ?_
 refine d_pure' 7 rfl rfl rfl (L_move rfl) ?_
 refine d_pure' 8 rfl rfl rfl (L_move rfl) ?_
 refine d_load' 0 rfl rfl rfl rfl rfl (d_bp ty_27) ?_
 refine d_load' 1 rfl rfl rfl rfl rfl (d_bp ty_27) ?_
 refine d_load' 2 rfl rfl rfl rfl rfl (d_bp ty_27) ?_
 refine d_load' 6 rfl rfl rfl rfl rfl (d_bp ty_27) ?_
 refine d_load' 10 rfl rfl rfl rfl rfl (d_bp ty_41) ?_
 refine d_any 5 [] ⟨?_,trivial⟩
 refine d_frame 5 [5,6,7] rfl rfl rfl rfl rfl ca_154 rfl (c_spec_l18Part (selC a r) u w (by omega) hla.2.1) ?_
 rintro r S ⟨r0,S0,⟨rfl,rfl⟩,rfl,rfl⟩
 refine d_any 9 [] ⟨?_,trivial⟩
 refine d_frame 9 [9,10,11] rfl rfl rfl rfl rfl ca_154 rfl (c_spec_l18Part (selC b r) u' w' (by omega) hlb.2.1) ?_
 rintro r S ⟨r0,S0,⟨rfl,rfl⟩,rfl,rfl⟩
 refine d_any 11 [] ⟨?_,trivial⟩
 refine d_call 11 rfl rfl rfl rfl rfl ca_153 (c_spec_l18Pairs (partCr (selC a r) u w) (partCr (selC b r) u' w') r (part_lens hla.2.1 hla.1) (part_lens hlb.2.1 hlb.1)) ?_ (ha:=by refine cons_eq ?_ (cons_eq ?_ (cons_eq rfl rfl))<;>exact agg_eq (cons_eq (lendC_cut rfl rfl) (cons_eq (lendC_cut rfl rfl) (cons_eq (lendC_whole rfl rfl) rfl))))
 rintro r S ⟨rfl,rfl⟩
 rw [hjn]
 refine d_any 12 [] ⟨?_,trivial⟩
 refine d_store' 12 rfl rfl rfl rfl rfl rfl (s_bp ty_27) ?_
 refine d_any 13 [] ⟨?_,trivial⟩
 refine d_store' 13 rfl rfl rfl rfl rfl rfl (s_bp ty_27) ?_
 refine d_pure' 14 rfl rfl rfl (L_assign rfl) ?_
 refine d_pure' 15 rfl rfl rfl (L_assign rfl) ?_
 refine D_done (by kernel_rfl) ?_
 refine E_ret ?_
 rw [hcc.1,hcc.2.1,hcc.2.2,hk]
 first
  | exact⟨_,[5,6,7,9,10,11,15],rfl,rfl,rfl,rfl⟩
  | exact⟨_,[5,6,7,8,9,10,11],rfl,rfl,rfl,rfl⟩
  | exact⟨_,[6,7,8,9,10,11,5],rfl,rfl,rfl,rfl⟩
  | exact⟨_,[5,6,7,9,10,11,8],rfl,rfl,rfl,rfl⟩

end Go.Proofs.Ytcepgfcolmdnoaa.E
