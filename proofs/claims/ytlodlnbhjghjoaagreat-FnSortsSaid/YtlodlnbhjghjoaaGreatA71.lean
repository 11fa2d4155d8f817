/- Walks through functions, by program out of the session's annotations. -/
import Derived.Test.YtlodlnbhjghjoaaGreatA70
import Derived.Test.YtlodlnbhjghjoaaGreatA16
import Derived.Test.YtlodlnbhjghjoaaGreatA52
namespace Go.Proofs.YtlodlnbhjghjoaaGreat.E
open Go Go.RowKit Go.Proofs
set_option linter.unusedVariables false
set_option linter.unusedSimpArgs false

/-- A piece sorted. -/
def spK (c:Crk) (v:Int):Bool:=isCrk c && isIn v (-999) 999
def spC (c:Crk) (v:Int):Crk:=if spK c v=true then segC c (aOf c.piv (cutIx c.piv v)).toNat (zOf c.piv c.vals.length (cutIx c.piv v)).toNat else c
/-- Pieces sorted, one behind the other, where f says so. -/
def sgStep (f:Int × Int→Bool) (s:Crk) (p:Int × Int):Crk:=if f p=true then segC s p.1.toNat p.2.toNat else s
def sgN (f : Int × Int → Bool) (c : Crk) : Nat → Crk
 | 0=>c
 | k+1=>sgStep f (sgN f c k) (lastK c k,zOf c.piv c.vals.length k)
def sgP (f:Int × Int→Bool) (c:Crk) (l:List (Int × Int)):Crk:=l.foldl (sgStep f) c
theorem segC_self {s : Crk} {a : Nat} (h : s.rows.length = s.vals.length) (ha : a ≤ s.vals.length) : segC s a a = s := by
 rw [segC,segP_self (by rw [zipC_len h];exact ha),zipC_1 h,zipC_2 h]
structure SameL (c s : Crk) : Prop where
 v:s.vals.length=c.vals.length
 r:s.rows.length=c.rows.length
 p:s.piv=c.piv
theorem sgStep_len {f : Int × Int → Bool} {c s : Crk} {p : Int × Int} (hl : c.rows.length = c.vals.length) (h : SameL c s) (hp : 0 ≤ p.1 ∧ p.1 ≤ p.2 ∧ p.2 ≤ c.vals.length) : SameL c (sgStep f s p) := by
 obtain⟨h1,h2,h3⟩:=h
 rw [sgStep]
 split
 ·have := segC_len (c := s) (a := p.1.toNat) (b := p.2.toNat) (by omega) (by omega) (by omega)
  exact⟨by omega,by omega,h3⟩
 exact⟨h1,h2,h3⟩
theorem sgN_len {f : Int × Int → Bool} {c : Crk} (hc : isCrk c = true) : ∀ k, k ≤ c.piv.length + 1 → SameL c (sgN f c k)
 | 0,_=>⟨rfl,rfl,rfl⟩
 | k+1,hk=>sgStep_len (crk_lens hc).2.1 (sgN_len hc k (by omega)) (last_bounds hc (by omega))
theorem sgN_pieces {f : Int × Int → Bool} {c : Crk} (hc : isCrk c = true) : ∀ k, k ≤ c.piv.length + 1 → sgN f c k = sgP f c (piecesN c k)
 | 0,_=>rfl
 | k + 1, hk => by
  have ih:=sgN_pieces (f:=f) hc k (by omega)
  have hb:=last_bounds hc (k:=k) (by omega)
  have hl:=sgN_len (f:=f) hc k (by omega)
  have hr:=(crk_lens hc).2.1
  rw [sgN,piecesN]
  split
  ·rw [sgP,List.foldl_append,ih];rfl
  rw [← ih]
  have e:lastK c k=zOf c.piv c.vals.length k:=by omega
  rw [sgStep]
  split
  ·rw [e]
   obtain⟨h1,h2,h3⟩:=hl
   exact segC_self (by omega) (by omega)
  rfl
theorem sgP_step {f : Int × Int → Bool} {c : Crk} {l : List (Int × Int)} {k : Nat} {p : Int × Int} (hp : l[k]? = some p) : sgP f c (l.take (k + 1)) = sgStep f (sgP f c (l.take k)) p := by
 rw [sgP,take_snoc hp,List.foldl_append];rfl
theorem sgP_len {f : Int × Int → Bool} {c : Crk} (hc : isCrk c = true) : ∀ k, SameL c (sgP f c ((piecesL c).take k))
 | 0=>by rw [List.take_zero];exact⟨rfl,rfl,rfl⟩
 | k + 1 => by
  have ih:=sgP_len (f:=f) hc k
  rcases Nat.lt_or_ge k (piecesL c).length with h|h
  ·obtain ⟨p, hp⟩ := at_lt h
   rw [sgP_step hp]
   exact sgStep_len (crk_lens hc).2.1 ih (pieces_in hc (c.piv.length+1) (Nat.le_refl _) p (List.mem_of_getElem? hp))
  rw [List.take_of_length_le (by omega)]
  rwa [List.take_of_length_le h] at ih
def smF (lim:Int) (p:Int × Int):Bool:=decide (p.2 - p.1≤lim)
def smC (c:Crk) (lim:Int):Crk:=if isCrk c=true then sgN (smF lim) c (c.piv.length+1) else c
/-- A range sorted. -/
def srF (lo hi:Int) (p:Int × Int):Bool:=decide (lo≤p.1) && decide (p.2≤hi)
def srC (c:Crk) (r:Int × Int):Crk:=if selK c r=true then sgN (srF (selLo c r) (selHi c r)) (selC c r) ((selC c r).piv.length+1) else selC c r
def srL (c:Crk) (r:Int × Int):List Int:=if selK c r=true then cutV (srC c r).vals (selLo c r) (selHi c r) else []
theorem srC_same {c : Crk} {r : Int × Int} : SameL (selC c r) (srC c r) := by
 rw [srC]
 split
 ·rename_i hk
  exact sgN_len (sel_in hk).1 _ (Nat.le_refl _)
 exact⟨rfl,rfl,rfl⟩
theorem nat_pair {p : Int × Int} {n : Nat} (h : 0 ≤ p.1 ∧ p.1 ≤ p.2 ∧ p.2 ≤ n) : ∃ a b : Nat, p = ((a : Int), (b : Int)) ∧ a ≤ b ∧ b ≤ n :=
 ⟨p.1.toNat,p.2.toNat,by ext<;>dsimp only<;>omega,by omega,by omega⟩
theorem sgStep_t {f : Int × Int → Bool} {s : Crk} {a b : Nat} (h : f ((a : Int), (b : Int)) = true) : sgStep f s ((a : Int), (b : Int)) = segC s a b := by
 rw [sgStep,if_pos h];rfl
theorem sgStep_f {f : Int × Int → Bool} {s : Crk} {p : Int × Int} (h : f p = false) : sgStep f s p = s := by
 rw [sgStep,if_neg (by simp [h])]
theorem c_l15SortAt {c s : Crk} (h : SameL c s) (a b : Nat) (hl : c.rows.length = c.vals.length) (hab : a ≤ b) (hb : b ≤ c.vals.length) (h64 : c.vals.length ≤ 64) : EFn Tryz.prog 165 [.c (.bp 0 0), .c (.sc (.int .i64 (a : Int))), .c (.sc (.int .i64 (b : Int)))] [.box (crkO 1 c), .row 3 1 (ints s.vals), .row 3 1 (ints s.rows), .row 151 2 (pairs c.piv)] (fun r S => r = .tup [] ∧ S = [.box (crkO 1 c), .row 3 1 (ints (segC s a b).vals), .row 3 1 (ints (segC s a b).rows), .row 151 2 (pairs c.piv)]) := by
 have h1:=h.v
 have h2:=h.r
 have:=c_spec_l15Sort s a b (by omega) hab (by omega) (by omega)
 have e:crkO 1 s=crkO 1 c:=by simp only [crkO,h.v,h.r,h.p]
 rw [e,h.p] at this
 exact this
theorem c_sortAt {c s : Crk} (h : SameL c s) (a b : Nat) (hl : c.rows.length = c.vals.length) (hab : a ≤ b) (hb : b ≤ c.vals.length) (h64 : c.vals.length ≤ 64) : EFn Tryz.prog 161 [.c (.bp 0 0), .c (.sc (.int .i64 (a : Int))), .c (.sc (.int .i64 (b : Int)))] [.box (crkO 1 c), .row 3 1 (ints s.vals), .row 3 1 (ints s.rows), .row 151 2 (pairs c.piv)] (fun r S => r = .tup [] ∧ S = [.box (crkO 1 c), .row 3 1 (ints (segC s a b).vals), .row 3 1 (ints (segC s a b).rows), .row 151 2 (pairs c.piv)]) := by
 have h1:=h.v
 have h2:=h.r
 have:=c___impl_Cracker__sort s a b (by omega) hab (by omega) (by omega)
 have e:crkO 1 s=crkO 1 c:=by simp only [crkO,h.v,h.r,h.p]
 rw [e,h.p] at this
 exact this

set_option maxRecDepth 20000 in
set_option maxHeartbeats 4000000 in
theorem c_spec_SortPiece (c : Crk) (v : Int) (hb : c.vals.length ≤ 1048576 ∧ c.rows.length ≤ 1048576 ∧ c.piv.length ≤ 1048576) : EFn Tryz.prog 86 [.agg (crkC c), .c (.sc (.int .i64 v))] [] (fun r S => r = .tup [(true, crkO 0 (spC c v)), (false, [.sc (.bool (spK c v))])] ∧ S = crkR 3 151 (spC c v)) := by
 refine E_fn Tryz.func86 rfl (Nat.le_of_ble_eq_true rfl) ?_
 refine E_seq ?_
 refine E_region' (L:=[0,1,2]) rfl ?_
 refine x_box rfl rfl rfl rfl rfl ?_
 refine x_alloc rfl rfl rfl rfl za_49 ?_
 refine xas ?_
 refine EOps_nil ?_
 refine E_seq ?_
 refine e_tidy_A37_2 [0,1,2,4,5] ?_
 refine E_region' (L:=[0,1,2,3]) rfl ?_
 refine l_ rfl (L_load rfl (xb0 ty_49)) ?_
 refine x_call rfl rfl rfl rfl rfl ca_99 (c_spec_l4Copy c hb) ?_
 rintro r S ⟨rfl,rfl⟩
 refine x_alloc rfl rfl rfl rfl za_49 ?_
 refine EOps_go rfl rfl (EOp_store rfl rfl rfl (xb1 ty_49) ?_)
 refine EOps_nil ?_
 refine E_seq ?_
 refine E_seq ?_
 refine e_tidy_A37_2 [0,1,2,4,5,6] ?_
 refine E_region' (L:=[0,1,2,3,4,5,6,7]) rfl ?_
 refine l_ rfl (L_load rfl (xb0 ty_49)) ?_
 refine x_call rfl rfl rfl rfl rfl ca_39 (c_spec_IsCracker c) ?_
 rintro r S ⟨rfl,rfl⟩
 refine p_ rfl (L_not rfl rfl) ?_
 refine xmv ?_
 refine EOps_split 14 (b:=_) rfl (fun hg14=>?_) (fun hg14=>?_)
 ·refine s_ rfl ?_
  refine s_ rfl ?_
  refine s_ rfl ?_
  refine p_ rfl (L_pick rfl rfl) ?_
  refine EOps_nil ?_
  refine E_cond rfl (fun hc18=>?_) (fun hc18=>?_)
  ·have hk : spK c v = false := by
    cases hk:spK c v
    ·rfl
    exfalso
    have hcv:isCrk c=true∧isIn v (-999) 999=true:=by simpa [spK] using hk
    first
     | (rw [hcv.1] at hg14;exact Bool.noConfusion hg14)
     | (rw [hcv.2] at hc18;exact Bool.noConfusion hc18)
   have hC:spC c v=c:=by rw [spC,hk];rfl
   refine E_seq ?_
   refine E_region' (L:=[0,1,2]) rfl ?_
   refine l_ rfl (L_load rfl (xb0 ty_49)) ?_
   refine EOps_go rfl rfl (EOp_store rfl rfl rfl (xb1 ty_49) ?_)
   refine xas ?_
   refine EOps_nil ?_
   refine E_ret ?_
   rw [hk,hC]
   exact⟨_,[2,3,4],rfl,rfl,rfl,rfl⟩
  exact Bool.noConfusion (hc18:true=false)
 refine xmv ?_
 refine x_call rfl rfl rfl rfl rfl ca_116 (c_spec_l1In v (-999) 999) ?_
 rintro r S ⟨rfl,rfl⟩
 refine p_ rfl (L_not rfl rfl) ?_
 refine p_ rfl (L_pick rfl rfl) ?_
 refine EOps_nil ?_
 refine E_cond rfl (fun hc18=>?_) (fun hc18=>?_)
 ·have hk : spK c v = false := by
   cases hk:spK c v
   ·rfl
   exfalso
   have hcv:isCrk c=true∧isIn v (-999) 999=true:=by simpa [spK] using hk
   first
    | (rw [hcv.1] at hg14;exact Bool.noConfusion hg14)
    | (rw [hcv.2] at hc18;exact Bool.noConfusion hc18)
  have hC:spC c v=c:=by rw [spC,hk];rfl
  refine E_seq ?_
  refine E_region' (L:=[0,1,2]) rfl ?_
  refine l_ rfl (L_load rfl (xb0 ty_49)) ?_
  refine EOps_go rfl rfl (EOp_store rfl rfl rfl (xb1 ty_49) ?_)
  refine xas ?_
  refine EOps_nil ?_
  refine E_ret ?_
  rw [hk,hC]
  exact⟨_,[2,3,4],rfl,rfl,rfl,rfl⟩
 have hcv : isCrk c = true ∧ isIn v (-999) 999 = true := ⟨by simpa using hg14, by simpa using hc18⟩
 have hk:spK c v=true:=by simp [spK,hcv]
 have hl:=crk_lens hcv.1
 have hbd:=cut_bounds hcv.1 (cutIx_le c.piv v)
 obtain⟨a,ha⟩:∃ a:Nat,aOf c.piv (cutIx c.piv v)=a:=⟨_,(Int.toNat_of_nonneg hbd.1).symm⟩
 obtain⟨z,hz⟩:∃ z:Nat,zOf c.piv c.vals.length (cutIx c.piv v)=z:=⟨(zOf c.piv c.vals.length (cutIx c.piv v)).toNat,(Int.toNat_of_nonneg (by omega)).symm⟩
 have hC:spC c v=segC c a z:=by rw [spC,if_pos hk,ha,hz,Int.toNat_natCast,Int.toNat_natCast]
 rw [ha,hz] at hbd
 have hs:=segC_len (c:=c) (a:=a) (b:=z) hl.2.1 (by omega) (by omega)
 rw [← hl.2.1] at hs
 refine E_skip ?_
 refine E_seq ?_
 refine e_tidy_A37_2 [0,1,2,4,5,6,18] ?_
 refine E_region' (L:=[0,1,2,3,4,5,6,7]) rfl ?_
 refine l_ rfl (L_load rfl (xb0 ty_49)) ?_
 refine xmv ?_
 refine x_call rfl rfl rfl rfl rfl ca_171 (c_spec_l15Bounds c v hcv.1) ?_
 rintro r S ⟨rfl,rfl⟩
 rw [ha,hz]
 refine xmv ?_
 refine p_ rfl (L_extract rfl rfl) ?_
 refine p_ rfl (L_extract rfl rfl) ?_
 refine xas ?_
 refine xas ?_
 refine EOps_nil ?_
 refine E_seq ?_
 refine e_tidy_A37_2 [0,1,2,4,5,6,7,8,18] ?_
 refine E_region' (L:=[0,1,2]) rfl ?_
 refine xmv ?_
 refine xmv ?_
 refine x_frame [5,2,3,4] rfl rfl rfl rfl rfl ca_165 rfl (c_l15SortAt (c:=c) (s:=c) ⟨rfl,rfl,rfl⟩ a z hl.2.1 (by omega) (by omega) hl.1) ?_
 rintro r S ⟨r0,S0,⟨rfl,rfl⟩,rfl,rfl⟩
 refine EOps_nil ?_
 refine E_seq ?_
 refine E_region' (L:=[0,1,2]) rfl ?_
 refine l_ rfl (L_load rfl (xb0 ty_49)) ?_
 refine EOps_go rfl rfl (EOp_store rfl rfl rfl (xb1 ty_49) ?_)
 refine xas ?_
 refine EOps_nil ?_
 refine E_ret ?_
 rw [hk,hC]
 have hs1:=segC_len (c:=c) (a:=a) (b:=z) hl.2.1 (by omega) (by omega)
 refine⟨_,[2,3,4],rfl,rfl,?_,rfl⟩
 simp only [crkO,hs1.1,hs1.2,hl.2.1]
 rfl

set_option maxRecDepth 20000 in
set_option maxHeartbeats 4000000 in
theorem c_impl_SortPiece (c : Crk) (v : Int) (hb : c.vals.length ≤ 1048576 ∧ c.rows.length ≤ 1048576 ∧ c.piv.length ≤ 1048576) : EFn Tryz.prog 85 [.agg (crkC c), .c (.sc (.int .i64 v))] [] (fun r S => r = .tup [(true, crkO 0 (spC c v)), (false, [.sc (.bool (spK c v))])] ∧ S = crkR 3 151 (spC c v)) := by
 refine E_fn Tryz.func85 rfl (Nat.le_of_ble_eq_true rfl) ?_
 refine E_seq ?_
 refine E_region' (L:=[0,1,2]) rfl ?_
 refine x_box rfl rfl rfl rfl rfl ?_
 refine x_alloc rfl rfl rfl rfl za_49 ?_
 refine xas ?_
 refine EOps_nil ?_
 refine E_seq ?_
 refine e_tidy_A37_2 [0,1,2,4,5] ?_
 refine E_region' (L:=[0,1,2,3]) rfl ?_
 refine l_ rfl (L_load rfl (xb0 ty_49)) ?_
 refine x_call rfl rfl rfl rfl rfl ca_104 (c_impl_copyCracker c hb) ?_
 rintro r S ⟨rfl,rfl⟩
 refine x_alloc rfl rfl rfl rfl za_49 ?_
 refine EOps_go rfl rfl (EOp_store rfl rfl rfl (xb1 ty_49) ?_)
 refine EOps_nil ?_
 refine E_seq ?_
 refine E_seq ?_
 refine e_tidy_A37_2 [0,1,2,4,5,6] ?_
 refine E_region' (L:=[0,1,2,3,4,5,6,7]) rfl ?_
 refine l_ rfl (L_load rfl (xb0 ty_49)) ?_
 refine x_call rfl rfl rfl rfl rfl ca_46 (c_impl_IsCracker c) ?_
 rintro r S ⟨rfl,rfl⟩
 refine p_ rfl (L_not rfl rfl) ?_
 refine xmv ?_
 refine EOps_split 14 (b:=_) rfl (fun hg14=>?_) (fun hg14=>?_)
 ·refine s_ rfl ?_
  refine s_ rfl ?_
  refine s_ rfl ?_
  refine p_ rfl (L_pick rfl rfl) ?_
  refine EOps_nil ?_
  refine E_cond rfl (fun hc18=>?_) (fun hc18=>?_)
  ·have hk : spK c v = false := by
    cases hk:spK c v
    ·rfl
    exfalso
    have hcv:isCrk c=true∧isIn v (-999) 999=true:=by simpa [spK] using hk
    first
     | (rw [hcv.1] at hg14;exact Bool.noConfusion hg14)
     | (rw [hcv.2] at hc18;exact Bool.noConfusion hc18)
   have hC:spC c v=c:=by rw [spC,hk];rfl
   refine E_seq ?_
   refine E_region' (L:=[0,1,2]) rfl ?_
   refine l_ rfl (L_load rfl (xb0 ty_49)) ?_
   refine EOps_go rfl rfl (EOp_store rfl rfl rfl (xb1 ty_49) ?_)
   refine xas ?_
   refine EOps_nil ?_
   refine E_ret ?_
   rw [hk,hC]
   exact⟨_,[2,3,4],rfl,rfl,rfl,rfl⟩
  exact Bool.noConfusion (hc18:true=false)
 refine xmv ?_
 refine x_call rfl rfl rfl rfl rfl ca_169 (c_impl_isNumber v) ?_
 rintro r S ⟨rfl,rfl⟩
 refine p_ rfl (L_not rfl rfl) ?_
 refine p_ rfl (L_pick rfl rfl) ?_
 refine EOps_nil ?_
 refine E_cond rfl (fun hc18=>?_) (fun hc18=>?_)
 ·have hk : spK c v = false := by
   cases hk:spK c v
   ·rfl
   exfalso
   have hcv:isCrk c=true∧isIn v (-999) 999=true:=by simpa [spK] using hk
   first
    | (rw [hcv.1] at hg14;exact Bool.noConfusion hg14)
    | (rw [hcv.2] at hc18;exact Bool.noConfusion hc18)
  have hC:spC c v=c:=by rw [spC,hk];rfl
  refine E_seq ?_
  refine E_region' (L:=[0,1,2]) rfl ?_
  refine l_ rfl (L_load rfl (xb0 ty_49)) ?_
  refine EOps_go rfl rfl (EOp_store rfl rfl rfl (xb1 ty_49) ?_)
  refine xas ?_
  refine EOps_nil ?_
  refine E_ret ?_
  rw [hk,hC]
  exact⟨_,[2,3,4],rfl,rfl,rfl,rfl⟩
 have hcv : isCrk c = true ∧ isIn v (-999) 999 = true := ⟨by simpa using hg14, by simpa using hc18⟩
 have hk:spK c v=true:=by simp [spK,hcv]
 have hl:=crk_lens hcv.1
 have hbd:=cut_bounds hcv.1 (cutIx_le c.piv v)
 obtain⟨a,ha⟩:∃ a:Nat,aOf c.piv (cutIx c.piv v)=a:=⟨_,(Int.toNat_of_nonneg hbd.1).symm⟩
 obtain⟨z,hz⟩:∃ z:Nat,zOf c.piv c.vals.length (cutIx c.piv v)=z:=⟨(zOf c.piv c.vals.length (cutIx c.piv v)).toNat,(Int.toNat_of_nonneg (by omega)).symm⟩
 have hC:spC c v=segC c a z:=by rw [spC,if_pos hk,ha,hz,Int.toNat_natCast,Int.toNat_natCast]
 rw [ha,hz] at hbd
 have hs:=segC_len (c:=c) (a:=a) (b:=z) hl.2.1 (by omega) (by omega)
 rw [← hl.2.1] at hs
 refine E_skip ?_
 refine E_seq ?_
 refine e_tidy_A37_2 [0,1,2,4,5,6,18] ?_
 refine E_region' (L:=[0,1,2,3,4,5,6,7]) rfl ?_
 refine l_ rfl (L_load rfl (xb0 ty_49)) ?_
 refine xmv ?_
 refine x_call rfl rfl rfl rfl rfl ca_170 (c_impl_pieceAt c v hcv.1) ?_
 rintro r S ⟨rfl,rfl⟩
 rw [ha,hz]
 refine xmv ?_
 refine p_ rfl (L_extract rfl rfl) ?_
 refine p_ rfl (L_extract rfl rfl) ?_
 refine xas ?_
 refine xas ?_
 refine EOps_nil ?_
 refine E_seq ?_
 refine e_tidy_A37_2 [0,1,2,4,5,6,7,8,18] ?_
 refine E_region' (L:=[0,1,2]) rfl ?_
 refine xmv ?_
 refine xmv ?_
 refine x_frame [5,2,3,4] rfl rfl rfl rfl rfl ca_161 rfl (c_sortAt (c:=c) (s:=c) ⟨rfl,rfl,rfl⟩ a z hl.2.1 (by omega) (by omega) hl.1) ?_
 rintro r S ⟨r0,S0,⟨rfl,rfl⟩,rfl,rfl⟩
 refine EOps_nil ?_
 refine E_seq ?_
 refine E_region' (L:=[0,1,2]) rfl ?_
 refine l_ rfl (L_load rfl (xb0 ty_49)) ?_
 refine EOps_go rfl rfl (EOp_store rfl rfl rfl (xb1 ty_49) ?_)
 refine xas ?_
 refine EOps_nil ?_
 refine E_ret ?_
 rw [hk,hC]
 have hs1:=segC_len (c:=c) (a:=a) (b:=z) hl.2.1 (by omega) (by omega)
 refine⟨_,[2,3,4],rfl,rfl,?_,rfl⟩
 simp only [crkO,hs1.1,hs1.2,hl.2.1]
 rfl

end Go.Proofs.YtlodlnbhjghjoaaGreat.E
