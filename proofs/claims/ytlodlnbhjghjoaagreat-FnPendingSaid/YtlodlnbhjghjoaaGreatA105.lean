/- Walks through functions, by program out of the session's annotations. -/
import Derived.Test.YtlodlnbhjghjoaaGreatA104
namespace Go.Proofs.YtlodlnbhjghjoaaGreat.E
open Go Go.RowKit Go.Proofs
set_option linter.unusedVariables false
set_option linter.unusedSimpArgs false

set_option maxRecDepth 20000 in
set_option maxHeartbeats 8000000 in
theorem c_spec_MergeRange (c : Crk) (p : Pnd) (r : Int × Int) (hb : (c.vals.length ≤ 1048576 ∧ c.rows.length ≤ 1048576 ∧ c.piv.length ≤ 1048576) ∧ p.ins.length ≤ 1048576 ∧ p.del.length ≤ 1048576) : EFn Tryz.prog 71 [.agg (crkC c), .agg (pndC p), .agg [.sc (.int .i64 r.1), .sc (.int .i64 r.2)]] [] (fun y S => y = .tup [(true, crkO 0 (mgC c p r)), (true, pndO 3 (mgP c p r)), (false, [.sc (.int .i64 (mgN c p r))])] ∧ S = crkR 3 151 (mgC c p r) ++ pndR 3 104 (mgP c p r)) := by
 refine E_fn Tryz.func71 rfl (Nat.le_of_ble_eq_true rfl) ?_
 refine E_G (n:=0) rfl ?_
 refine G_seq ?_
 refine G_region' (L:=[0,1,2,3,4,5]) rfl ?_
 refine x_box rfl rfl rfl rfl rfl ?_
 refine x_box rfl rfl rfl rfl rfl ?_
 refine x_box rfl rfl rfl rfl rfl ?_
 refine x_alloc rfl rfl rfl rfl za_49 ?_
 refine x_alloc rfl rfl rfl rfl za_91 ?_
 refine xas ?_
 refine EOps_nil ?_
 refine G_seq ?_
 refine g_tidy_A104_0 [0,1,2,3,4,5,6,7,8] ?_
 refine G_region' (L:=[0,1,2,3]) rfl ?_
 refine l_ rfl (L_load rfl (xb0 ty_49)) ?_
 refine x_call rfl rfl rfl rfl rfl ca_99 (c_spec_l4Copy c hb.1) ?_
 rintro r S ⟨rfl,rfl⟩
 refine x_alloc rfl rfl rfl rfl za_49 ?_
 refine EOps_go rfl rfl (EOp_store rfl rfl rfl (xb1 ty_49) ?_)
 refine EOps_nil ?_
 refine G_seq ?_
 refine G_seq ?_
 refine g_tidy_A104_0 [0,1,2,3,4,5,6,7,8,9] ?_
 refine G_region' (L:=[0,1,2,3,4,5,6,7,8]) rfl ?_
 refine l_ rfl (L_load rfl (xb0 ty_49)) ?_
 refine l_ rfl (L_load rfl (xb0 ty_91)) ?_
 refine x_call rfl rfl rfl rfl rfl ca_72 (c_spec_IsPending c p ⟨hb.1.2.1,by omega⟩) ?_
 rintro r S ⟨rfl,rfl⟩
 refine p_ rfl (L_not rfl rfl) ?_
 refine xmv ?_
 refine EOps_split 26 (b:=_) rfl (fun hg26=>?_) (fun hg26=>?_)
 ·refine s_ rfl ?_
  refine s_ rfl ?_
  refine s_ rfl ?_
  refine p_ rfl (L_pick rfl rfl) ?_
  refine EOps_nil ?_
  refine G_cond rfl (fun hc30=>?_) (fun hc30=>?_)
  ·have hk : mgK c p r = false := by
    simp only [mgK]
    first|(simp_all;done)|simp_all
   have hcc:mgC c p r=c∧mgP c p r=p∧mgN c p r=0:=by simp [mgC,mgP,mgN,hk]
   refine G_seq ?_
   refine g_tidy_A104_0 [0,1,2,3,4,5,6,7,8,9,30] ?_
   refine G_drawU mixed ?_
   refine u_any 0 [1] ⟨?_,?_,trivial⟩
   ·refine u_op 0 rfl rfl (EOp_light rfl (by decide) (L_load rfl (xb3 ty_49)) ?_)
    refine u_any 1 [] ⟨?_,trivial⟩
    refine u_op 1 rfl rfl (EOp_light rfl (by decide) (L_load rfl (xb0 ty_91)) ?_)
    refine u_any 2 [] ⟨?_,trivial⟩
    refine u_call 2 rfl rfl rfl rfl rfl ca_137 (c_spec_l11Copy p hb.2) ?_
    rintro r S ⟨rfl,rfl⟩
    refine u_any 3 [] ⟨?_,trivial⟩
    refine u_op 3 rfl rfl (EOp_store rfl rfl rfl (xb1 ty_49) ?_)
    refine u_any 4 [] ⟨?_,trivial⟩
    refine u_op 4 rfl rfl (EOp_store rfl rfl rfl (xb1 ty_91) ?_)
    refine up_ 5 rfl (L_assign rfl) ?_
    refine u_done ?_
    refine G_ret ?_
    rw [hcc.1,hcc.2.1,hcc.2.2]
    first
     | exact⟨_,[5,6,7,10,11],rfl,rfl,rfl,rfl⟩
     | exact⟨_,[5,6,7,11,10],rfl,rfl,rfl,rfl⟩
     | exact⟨_,[5,6,7,9,10],rfl,rfl,rfl,rfl⟩
   refine u_op 1 rfl rfl (EOp_light rfl (by decide) (L_load rfl (xb3 ty_91)) ?_)
   refine u_any 0 [2] ⟨?_,?_,trivial⟩
   ·refine u_op 0 rfl rfl (EOp_light rfl (by decide) (L_load rfl (xb3 ty_49)) ?_)
    refine u_any 2 [] ⟨?_,trivial⟩
    refine u_call 2 rfl rfl rfl rfl rfl ca_137 (c_spec_l11Copy p hb.2) ?_
    rintro r S ⟨rfl,rfl⟩
    refine u_any 3 [] ⟨?_,trivial⟩
    refine u_op 3 rfl rfl (EOp_store rfl rfl rfl (xb1 ty_49) ?_)
    refine u_any 4 [] ⟨?_,trivial⟩
    refine u_op 4 rfl rfl (EOp_store rfl rfl rfl (xb1 ty_91) ?_)
    refine up_ 5 rfl (L_assign rfl) ?_
    refine u_done ?_
    refine G_ret ?_
    rw [hcc.1,hcc.2.1,hcc.2.2]
    first
     | exact⟨_,[5,6,7,10,11],rfl,rfl,rfl,rfl⟩
     | exact⟨_,[5,6,7,11,10],rfl,rfl,rfl,rfl⟩
     | exact⟨_,[5,6,7,9,10],rfl,rfl,rfl,rfl⟩
   refine u_call 2 rfl rfl rfl rfl rfl ca_137 (c_spec_l11Copy p hb.2) ?_
   rintro r S ⟨rfl,rfl⟩
   refine u_any 0 [] ⟨?_,trivial⟩
   refine u_op 0 rfl rfl (EOp_light rfl (by decide) (L_load rfl (xb0 ty_49)) ?_)
   refine u_any 3 [] ⟨?_,trivial⟩
   refine u_op 3 rfl rfl (EOp_store rfl rfl rfl (xb1 ty_49) ?_)
   refine u_any 4 [] ⟨?_,trivial⟩
   refine u_op 4 rfl rfl (EOp_store rfl rfl rfl (xb1 ty_91) ?_)
   refine up_ 5 rfl (L_assign rfl) ?_
   refine u_done ?_
   refine G_ret ?_
   rw [hcc.1,hcc.2.1,hcc.2.2]
   first
    | exact⟨_,[5,6,7,10,11],rfl,rfl,rfl,rfl⟩
    | exact⟨_,[5,6,7,11,10],rfl,rfl,rfl,rfl⟩
    | exact⟨_,[5,6,7,9,10],rfl,rfl,rfl,rfl⟩
  exact Bool.noConfusion (hc30:true=false)
 refine l_ rfl (L_load rfl (xb3 ty_53)) ?_
 refine x_call rfl rfl rfl rfl rfl ca_41 (c_spec_IsRange r) ?_
 rintro r S ⟨rfl,rfl⟩
 refine p_ rfl (L_not rfl rfl) ?_
 refine p_ rfl (L_pick rfl rfl) ?_
 refine EOps_nil ?_
 refine G_cond rfl (fun hc30=>?_) (fun hc30=>?_)
 ·have hk : mgK c p r = false := by
   simp only [mgK]
   first|(simp_all;done)|simp_all
  have hcc:mgC c p r=c∧mgP c p r=p∧mgN c p r=0:=by simp [mgC,mgP,mgN,hk]
  refine G_seq ?_
  refine g_tidy_A104_0 [0,1,2,3,4,5,6,7,8,9,30] ?_
  refine G_drawU mixed ?_
  refine u_any 0 [1] ⟨?_,?_,trivial⟩
  ·refine u_op 0 rfl rfl (EOp_light rfl (by decide) (L_load rfl (xb3 ty_49)) ?_)
   refine u_any 1 [] ⟨?_,trivial⟩
   refine u_op 1 rfl rfl (EOp_light rfl (by decide) (L_load rfl (xb0 ty_91)) ?_)
   refine u_any 2 [] ⟨?_,trivial⟩
   refine u_call 2 rfl rfl rfl rfl rfl ca_137 (c_spec_l11Copy p hb.2) ?_
   rintro r S ⟨rfl,rfl⟩
   refine u_any 3 [] ⟨?_,trivial⟩
   refine u_op 3 rfl rfl (EOp_store rfl rfl rfl (xb1 ty_49) ?_)
   refine u_any 4 [] ⟨?_,trivial⟩
   refine u_op 4 rfl rfl (EOp_store rfl rfl rfl (xb1 ty_91) ?_)
   refine up_ 5 rfl (L_assign rfl) ?_
   refine u_done ?_
   refine G_ret ?_
   rw [hcc.1,hcc.2.1,hcc.2.2]
   first
    | exact⟨_,[5,6,7,10,11],rfl,rfl,rfl,rfl⟩
    | exact⟨_,[5,6,7,11,10],rfl,rfl,rfl,rfl⟩
    | exact⟨_,[5,6,7,9,10],rfl,rfl,rfl,rfl⟩
  refine u_op 1 rfl rfl (EOp_light rfl (by decide) (L_load rfl (xb3 ty_91)) ?_)
  refine u_any 0 [2] ⟨?_,?_,trivial⟩
  ·refine u_op 0 rfl rfl (EOp_light rfl (by decide) (L_load rfl (xb3 ty_49)) ?_)
   refine u_any 2 [] ⟨?_,trivial⟩
   refine u_call 2 rfl rfl rfl rfl rfl ca_137 (c_spec_l11Copy p hb.2) ?_
   rintro r S ⟨rfl,rfl⟩
   refine u_any 3 [] ⟨?_,trivial⟩
   refine u_op 3 rfl rfl (EOp_store rfl rfl rfl (xb1 ty_49) ?_)
   refine u_any 4 [] ⟨?_,trivial⟩
   refine u_op 4 rfl rfl (EOp_store rfl rfl rfl (xb1 ty_91) ?_)
   refine up_ 5 rfl (L_assign rfl) ?_
   refine u_done ?_
   refine G_ret ?_
   rw [hcc.1,hcc.2.1,hcc.2.2]
   first
    | exact⟨_,[5,6,7,10,11],rfl,rfl,rfl,rfl⟩
    | exact⟨_,[5,6,7,11,10],rfl,rfl,rfl,rfl⟩
    | exact⟨_,[5,6,7,9,10],rfl,rfl,rfl,rfl⟩
  refine u_call 2 rfl rfl rfl rfl rfl ca_137 (c_spec_l11Copy p hb.2) ?_
  rintro r S ⟨rfl,rfl⟩
  refine u_any 0 [] ⟨?_,trivial⟩
  refine u_op 0 rfl rfl (EOp_light rfl (by decide) (L_load rfl (xb0 ty_49)) ?_)
  refine u_any 3 [] ⟨?_,trivial⟩
  refine u_op 3 rfl rfl (EOp_store rfl rfl rfl (xb1 ty_49) ?_)
  refine u_any 4 [] ⟨?_,trivial⟩
  refine u_op 4 rfl rfl (EOp_store rfl rfl rfl (xb1 ty_91) ?_)
  refine up_ 5 rfl (L_assign rfl) ?_
  refine u_done ?_
  refine G_ret ?_
  rw [hcc.1,hcc.2.1,hcc.2.2]
  first
   | exact⟨_,[5,6,7,10,11],rfl,rfl,rfl,rfl⟩
   | exact⟨_,[5,6,7,11,10],rfl,rfl,rfl,rfl⟩
   | exact⟨_,[5,6,7,9,10],rfl,rfl,rfl,rfl⟩
 have hk : mgK c p r = true := by
  simp only [mgK]
  simp_all
 obtain⟨hp0,hr0⟩:=mgK_parts hk
 have hp:=pnd_ok hp0
 have hcl:=crk_lens ((crk_iff c).2 hp.crk)
 have hil:=hp.il
 have hdl:=hp.dl
 refine G_skip ?_
 refine G_seq ?_
 refine G_region' (L:=[0,1,2]) rfl ?_
 refine p_ rfl (L_build rfl bd_91 rfl rfl) ?_
 refine x_alloc rfl rfl rfl rfl za_91 ?_
 refine EOps_go rfl rfl (EOp_store rfl rfl rfl (xb1 ty_91) ?_)
 refine EOps_nil ?_
 refine G_seq ?_
 refine G_region' (L:=[0]) rfl ?_
 refine xas ?_
 refine EOps_nil ?_
 refine G_seq ?_
 refine G_seq ?_
 refine G_region' (L:=[0]) rfl ?_
 refine xas ?_
 refine EOps_nil ?_
 refine G_block ?_
 refine G_ghostB 9 1 3 1 rfl rfl (by decide) ?_
 refine g_forD_A104_1 (α:=Nat × Crk × List Int × Int) [0,1,2,3,4,5,6,7,8,9,10,30] (fun (k,X,L,mv)=>[(12,.c (.sc (.int .i64 ((k:Int))))),(11,.c (.sc (.int .i64 (mv)))),(13,.any),(14,.any),(15,.any)]) (fun (k,X,L,mv)=>[.box (crkC c),.box (pndC p),.box [.sc (.int .i64 r.1),.sc (.int .i64 r.2)],.box [.sc (.slice none 0 0),.sc (.slice none 0 0),.sc (.slice none 0 0)],.box [.sc (.slice none 0 0),.sc (.slice none 0 0)],.row 3 1 (ints X.vals),.row 3 1 (ints X.rows),.row 151 2 (pairs X.piv),.box (crkO 5 X),.box [.sc (.slice none 0 0),.sl 10 0 L.length L.length],.row 3 1 (ints L)]) (fun (k,X,L,mv)=>mD c p r k=(X,L,mv)∧k≤p.del.length) (fun (k,X,L,mv)=>p.del.length - k) ((0,c,[],0)) ?_ (rfl) ⟨.inr rfl,.inr rfl,.inl rfl,.inl rfl,.inl rfl,trivial⟩ ?_
 ·exact⟨rfl,Nat.zero_le _⟩
 rintro⟨k,X,L,mv⟩ ⟨hgo,hkl⟩
 dsimp only at *
 have I:=mD_ok hp r k hkl
 rw [hgo] at I
 have hXok:=(crk_iff X).2 I.ok
 have hXl:=crk_lens hXok
 have hLl:=I.ll
 have hnn:=I.nn
 dsimp only at hLl hnn
 have hmb:((c.piv.length:Int)+1)*k≤2002*20:=Int.mul_le_mul (by omega) (by omega) (by omega) (by omega)
 refine G_seq ?_
 refine G_seq ?_
 refine G_region' (L:=[0,1,2,3,4]) rfl ?_
 refine xmv ?_
 refine p_ rfl (l_field rfl fo_91_1) ?_
 refine l_ rfl (L_load rfl (xb0 ty_22)) ?_
 refine p_ rfl (l_len rfl sl_22) ?_
 refine p_ rfl (L_bin rfl rfl rfl rfl) ?_
 refine EOps_nil ?_
 refine G_cond rfl (fun hc39=>?_) (fun hc39=>?_)
 ·have hc39' : k < (p.del).length := by simpa [ints_len, bools_len, pairs_len, quads_len, quints_len] using hc39
  obtain⟨w,hw⟩:∃ x,(p.del)[k]? = some x:=⟨_,List.getElem?_eq_getElem hc39'⟩
  obtain⟨hwr,hwv⟩:=mDI_row hp I hw
  obtain⟨i,hi,hil2,hri,hvi,_⟩:=row_place I.ok.rl hwr
  rw [hwv] at hvi
  refine G_skip ?_
  refine G_seq ?_
  refine G_block ?_
  refine G_seq ?_
  refine G_seq ?_
  refine g_tidy_A104_0 [0,1,2,3,4,5,6,7,8,9,10,11,12,13,14,30,39,55] ?_
  refine G_drawT mixed ?_
  refine tl_ 0 rfl (L_load rfl (xb0 ty_53)) ?_
  refine tj_ 1 rfl (l_field rfl fo_49_0) ?_
  refine tl_ 2 rfl (L_load rfl (xb0 ty_22)) ?_
  refine tl_ 3 rfl (L_load rfl (xb0 ty_49)) ?_
  refine tj_ 4 rfl (l_field rfl fo_91_1) ?_
  refine tl_ 5 rfl (L_load rfl (xb0 ty_22)) ?_
  refine tj_ 6 rfl (L_move rfl) ?_
  refine tj_ 7 rfl (L_index rfl rfl (xii sl_22 ty_3)) ?_
  refine tl_ 8 rfl (L_load rfl (xb0 ty_3)) ?_
  refine t_call 9 rfl rfl rfl rfl rfl ca_150 (c_spec_FindRow X w (by omega)) ?_
  rintro r S ⟨rfl,rfl⟩
  rw [hi]
  refine tj_ 10 rfl (L_index rfl rfl (xii sl_22 ty_3)) ?_
  refine tl_ 11 rfl (L_load rfl (xb0 ty_3)) ?_
  refine t_call 12 rfl rfl rfl rfl rfl ca_73 (c_spec_InRange r (valAt c w)) ?_
  rintro r S ⟨rfl,rfl⟩
  refine tj_ 13 rfl (L_not rfl rfl) ?_
  refine T_done (by kernel_rfl) ?_
  refine G_cond rfl (fun hc55=>?_) (fun hc55=>?_)
  ·have hin : ¬ inR r (valAt c w) = true := by simpa using hc55
   have hst:=mD_f hw hgo hin
   refine G_seq ?_
   refine G_drawT mixed ?_
   refine tj_ 0 rfl (l_field rfl fo_91_1) ?_
   refine tl_ 1 rfl (L_load rfl (xb0 ty_22)) ?_
   refine tj_ 2 rfl (l_field rfl fo_91_1) ?_
   refine tl_ 3 rfl (L_load rfl (xb0 ty_22)) ?_
   refine tj_ 4 rfl (L_move rfl) ?_
   refine tj_ 5 rfl (L_index rfl rfl (xii sl_22 ty_3)) ?_
   refine tl_ 6 rfl (L_load rfl (xb0 ty_3)) ?_
   refine t_heavy 7 rfl rfl rfl (V_bslice_ro rfl sl_22 ty_3 za_3 ⟨rfl,by decide⟩ (by decide) rfl rfl rfl rfl ?_)
   refine t_turn 8 rfl rfl (EOp_append (news:=ints [w]) rfl rfl (by decide) sl_22 ty_3 by_3 za_3 ⟨rfl,by decide⟩ rfl (by first|rfl|assumption) xb6 xb7 xb8 xb9 ?_)
   refine tj_ 9 rfl (l_field rfl fo_91_1) ?_
   refine t_turn 10 rfl rfl (EOp_store rfl rfl rfl (xb1 ty_22) ?_)
   refine T_done (by kernel_rfl) ?_
   refine G_exit ?_
   refine G_region' (L:=[0,1,2]) rfl ?_
   refine xmv ?_
   refine p_ rfl xb2 ?_
   refine xas ?_
   refine EOps_nil ?_
   refine⟨[0,1,2,3,4,5,6,7,8,9,10],rfl,(k+1,X,L++[w],mv),?_,?_,(by first|rfl|(dsimp only;rw [← ints_lenApp L [w],← ints_app L [w]];rfl)),⟨.inr rfl,.inr rfl,.inl rfl,.inl rfl,.inl rfl,trivial⟩,⟨.inr rfl,.inr rfl,.inr rfl,.inr rfl,.inr rfl,.inr rfl,.inr rfl,.inr rfl,.inr rfl,.inr rfl,.inr rfl,.inr rfl,trivial⟩⟩
   ·dsimp only;omega
   exact⟨hst,by dsimp only;omega⟩
  have hin : inR r (valAt c w) = true := by simpa using hc55
  have hst:=mD_t hw hgo hin
  have hbb:=dRowN_bd X w
  refine G_skip ?_
  refine G_seq ?_
  refine g_tidy_A104_0 [0,1,2,3,4,5,6,7,8,9,10,11,12,13,14,30,39,55] ?_
  refine G_drawT mixed ?_
  refine tl_ 0 rfl (L_load rfl (xb0 ty_49)) ?_
  refine tj_ 1 rfl (l_field rfl fo_91_1) ?_
  refine tl_ 2 rfl (L_load rfl (xb0 ty_22)) ?_
  refine tj_ 3 rfl (L_move rfl) ?_
  refine tj_ 4 rfl (L_index rfl rfl (xii sl_22 ty_3)) ?_
  refine tl_ 5 rfl (L_load rfl (xb0 ty_3)) ?_
  refine t_main 3 [(⟨none,11,13,0⟩,_)] [(6,false),(7,true),(8,true),(9,true),(10,true)] [73,66,74,75,76] [(13,.any),(73,.any),(66,.any),(74,.any),(75,.any),(76,.any)] [6,7,8,9,10,11] ⟨.one rfl rfl rfl (by decide) (F_alloc rfl za_49),trivial⟩ ?_
  refine m_call rfl rfl rfl rfl rfl ca_151 (c_spec_RippleDelete X w hXok hwr) ?_
  rintro r S ⟨rfl,rfl⟩
  refine m_pure rfl rfl rfl (L_move rfl) ?_
  refine m_pure rfl rfl rfl (L_extract rfl rfl) ?_
  refine m_pure rfl rfl rfl (L_extract rfl rfl) ?_
  refine m_pure rfl rfl rfl (L_extract rfl rfl) ?_
  refine m_done ?_
  refine fk_cons ?_
  rintro r S ⟨rfl,rfl⟩
  refine fk_nil ?_
  refine t_turn 12 rfl rfl (EOp_store rfl rfl rfl (xb1 ty_49) ?_)
  refine tj_ 13 rfl (L_assign rfl) ?_
  refine tj_ 14 rfl (L_assign rfl) ?_
  refine T_done (by kernel_rfl) ?_
  refine G_seq ?_
  refine G_region' (L:=[0,1]) rfl ?_
  refine l_ rfl (L_load rfl (xb0 ty_49)) ?_
  refine EOps_go rfl rfl (EOp_store rfl rfl rfl (xb1 ty_49) ?_)
  refine EOps_nil ?_
  refine G_region' (L:=[0,1,2,3]) rfl ?_
  refine xmv ?_
  refine xmv ?_
  refine p_ rfl xb2 ?_
  refine xas ?_
  refine EOps_nil ?_
  refine G_region' (L:=[0,1,2]) rfl ?_
  refine xmv ?_
  refine p_ rfl xb2 ?_
  refine xas ?_
  refine EOps_nil ?_
  first
   | (refine⟨[0,1,2,3,4,11,12,13,8,9,10],rfl,(k+1,dRow X w,L,mv+dRowN X w),?_,?_,(by first|rfl|(dsimp only;rw [← ints_lenApp L [w],← ints_app L [w]];rfl)),⟨.inr rfl,.inr rfl,.inl rfl,.inl rfl,.inl rfl,trivial⟩,⟨.inr rfl,.inr rfl,.inr rfl,.inr rfl,.inr rfl,.inr rfl,.inr rfl,.inr rfl,.inr rfl,.inr rfl,.inr rfl,.inr rfl,trivial⟩⟩)
   | (refine⟨[0,1,2,3,4,12,13,14,8,9,10],rfl,(k+1,dRow X w,L,mv+dRowN X w),?_,?_,(by first|rfl|(dsimp only;rw [← ints_lenApp L [w],← ints_app L [w]];rfl)),⟨.inr rfl,.inr rfl,.inl rfl,.inl rfl,.inl rfl,trivial⟩,⟨.inr rfl,.inr rfl,.inr rfl,.inr rfl,.inr rfl,.inr rfl,.inr rfl,.inr rfl,.inr rfl,.inr rfl,.inr rfl,.inr rfl,trivial⟩⟩)
  ·dsimp only;omega
  exact⟨hst,by dsimp only;omega⟩
 have hk0 : k = p.del.length := by simp [ints_len] at hc39; omega
 subst hk0
 refine G_exit ?_
 refine G_seq ?_
 refine G_seq ?_
 refine G_region' (L:=[0]) rfl ?_
 refine xas ?_
 refine EOps_nil ?_
 refine G_block ?_
 refine G_ghostB 9 0 104 2 rfl rfl (by decide) ?_
 refine g_forD_A104_1 (α:=Nat × Crk × List (Int × Int) × Int) [0,1,2,3,4,5,6,7,8,9,10,12,13,14,30,39,55] (fun (j,Y,Q,nv)=>[(16,.c (.sc (.int .i64 ((j:Int))))),(11,.c (.sc (.int .i64 (nv)))),(17,.any),(18,.any),(19,.any)]) (fun (j,Y,Q,nv)=>[.box (crkC c),.box (pndC p),.box [.sc (.int .i64 r.1),.sc (.int .i64 r.2)],.box [.sc (.slice none 0 0),.sc (.slice none 0 0),.sc (.slice none 0 0)],.box [.sc (.slice none 0 0),.sc (.slice none 0 0)],.row 3 1 (ints Y.vals),.row 3 1 (ints Y.rows),.row 151 2 (pairs Y.piv),.box (crkO 5 Y),.box [.sl 11 0 Q.length Q.length,.sl 10 0 L.length L.length],.row 3 1 (ints L),.row 104 2 (pairs Q)]) (fun (j,Y,Q,nv)=>mI c p r j=(Y,Q,nv)∧j≤p.ins.length) (fun (j,Y,Q,nv)=>p.ins.length - j) ((0,X,[],mv)) ?_ (rfl) ⟨.inr rfl,.inr rfl,.inl rfl,.inl rfl,.inl rfl,trivial⟩ ?_
 ·exact⟨by rw [mI,hgo],Nat.zero_le _⟩
 rintro⟨j,Y,Q,nv⟩ ⟨hgo2,hjl⟩
 dsimp only at *
 have J:=mI_ok hp r j hjl
 rw [hgo2] at J
 have hYok:=(crk_iff Y).2 J.ok
 have hYl:=crk_lens hYok
 have hQl:=J.ll
 have hjn:=J.nn
 dsimp only at hQl hjn
 have hjb:((c.piv.length:Int)+1)*(p.del.length+j)≤2002*40:=Int.mul_le_mul (by omega) (by omega) (by omega) (by omega)
 refine G_seq ?_
 refine G_seq ?_
 refine G_region' (L:=[0,1,2,3,4]) rfl ?_
 refine xmv ?_
 refine p_ rfl (l_field rfl fo_91_0) ?_
 refine l_ rfl (L_load rfl (xb0 ty_89)) ?_
 refine p_ rfl (l_len rfl sl_89) ?_
 refine p_ rfl (L_bin rfl rfl rfl rfl) ?_
 refine EOps_nil ?_
 refine G_cond rfl (fun hc85=>?_) (fun hc85=>?_)
 ·have hc85' : j < (p.ins).length := by simpa [ints_len, bools_len, pairs_len, quads_len, quints_len] using hc85
  obtain⟨x,hx⟩:∃ x,(p.ins)[j]? = some x:=⟨_,List.getElem?_eq_getElem hc85'⟩
  obtain⟨hxr,hx64⟩:=mII_row hp J hx
  have hit:=hp.it x (List.mem_of_getElem? hx)
  have hxi:isItem x=true:=by simp only [isItem,isIn,Bool.and_eq_true,decide_eq_true_eq];omega
  dsimp only at hxr hx64
  refine G_skip ?_
  refine G_seq ?_
  refine G_block ?_
  refine G_seq ?_
  refine G_seq ?_
  refine g_tidy_A104_0 [0,1,2,3,4,5,6,7,8,9,10,11,12,13,14,16,17,18,30,39,55,85,96] ?_
  refine G_drawT mixed ?_
  refine tl_ 0 rfl (L_load rfl (xb0 ty_53)) ?_
  refine tj_ 1 rfl (l_field rfl fo_91_0) ?_
  refine tl_ 2 rfl (L_load rfl (xb0 ty_89)) ?_
  refine tj_ 3 rfl (L_move rfl) ?_
  refine tj_ 4 rfl (L_index rfl rfl (xii sl_89 ty_104)) ?_
  refine tj_ 5 rfl (l_field rfl fo_104_0) ?_
  refine tl_ 6 rfl (L_load rfl (xb0 ty_3)) ?_
  refine t_call 7 rfl rfl rfl rfl rfl ca_73 (c_spec_InRange r x.1) ?_
  rintro r S ⟨rfl,rfl⟩
  refine tj_ 8 rfl (L_not rfl rfl) ?_
  refine T_done (by kernel_rfl) ?_
  refine G_cond rfl (fun hc96=>?_) (fun hc96=>?_)
  ·have hin : ¬ inR r x.1 = true := by simpa using hc96
   have hst:=mI_f hx hgo2 hin
   refine G_seq ?_
   refine G_drawT mixed ?_
   refine tj_ 0 rfl (l_field rfl fo_91_0) ?_
   refine tl_ 1 rfl (L_load rfl (xb0 ty_89)) ?_
   refine tj_ 2 rfl (l_field rfl fo_91_0) ?_
   refine tl_ 3 rfl (L_load rfl (xb0 ty_89)) ?_
   refine tj_ 4 rfl (L_move rfl) ?_
   refine tj_ 5 rfl (L_index rfl rfl (xii sl_89 ty_104)) ?_
   refine tl_ 6 rfl (L_load rfl (xb0 ty_104)) ?_
   refine t_heavy 7 rfl rfl rfl (V_bslice_ro rfl sl_89 ty_104 za_104 ⟨rfl,by decide⟩ (by decide) rfl rfl rfl rfl ?_)
   refine t_turn 8 rfl rfl (EOp_append (news:=pairs [x]) rfl rfl (by decide) sl_89 ty_104 by_104 za_104 ⟨rfl,by decide⟩ rfl (by first|rfl|assumption) xb6 xb7 xb8 xb9 ?_)
   refine tj_ 9 rfl (l_field rfl fo_91_0) ?_
   refine t_turn 10 rfl rfl (EOp_store rfl rfl rfl (xb1 ty_89) ?_)
   refine T_done (by kernel_rfl) ?_
   refine G_exit ?_
   refine G_region' (L:=[0,1,2]) rfl ?_
   refine xmv ?_
   refine p_ rfl xb2 ?_
   refine xas ?_
   refine EOps_nil ?_
   refine⟨[0,1,2,3,4,5,6,7,8,9,10,11],rfl,(j+1,Y,Q++[x],nv),?_,?_,(by first|rfl|(dsimp only;rw [← pairs_lenApp Q [x],← pairs_app Q [x]];rfl)),⟨.inr rfl,.inr rfl,.inl rfl,.inl rfl,.inl rfl,trivial⟩,⟨.inr rfl,.inr rfl,.inr rfl,.inr rfl,.inr rfl,.inr rfl,.inr rfl,.inr rfl,.inr rfl,.inr rfl,.inr rfl,.inr rfl,.inr rfl,.inr rfl,.inr rfl,.inr rfl,.inr rfl,trivial⟩⟩
   ·dsimp only;omega
   exact⟨hst,by dsimp only;omega⟩
  have hin : inR r x.1 = true := by simpa using hc96
  have hst:=mI_t hx hgo2 hin
  rw [List.append_nil] at hst
  have hbb:=ripIn_bd Y x
  refine G_skip ?_
  refine G_seq ?_
  refine g_tidy_A104_0 [0,1,2,3,4,5,6,7,8,9,10,11,12,13,14,16,17,18,30,39,55,85,96] ?_
  refine G_drawT mixed ?_
  refine tl_ 0 rfl (L_load rfl (xb0 ty_49)) ?_
  refine tj_ 1 rfl (l_field rfl fo_91_0) ?_
  refine tl_ 2 rfl (L_load rfl (xb0 ty_89)) ?_
  refine tj_ 3 rfl (L_move rfl) ?_
  refine tj_ 4 rfl (L_index rfl rfl (xii sl_89 ty_104)) ?_
  refine tl_ 5 rfl (L_load rfl (xb0 ty_104)) ?_
  refine t_main 3 [(⟨none,11,17,0⟩,_)] [(6,false),(7,true),(8,true),(9,true),(10,true)] [114,107,115,116,117] [(17,.any),(114,.any),(107,.any),(115,.any),(116,.any),(117,.any)] [6,7,8,9,10,11] ⟨.one rfl rfl rfl (by decide) (F_alloc rfl za_49),trivial⟩ ?_
  refine m_call rfl rfl rfl rfl rfl ca_152 (c_spec_RippleInsert Y x hYok hxi hxr hx64) ?_
  rintro r S ⟨rfl,rfl⟩
  refine m_pure rfl rfl rfl (L_move rfl) ?_
  refine m_pure rfl rfl rfl (L_extract rfl rfl) ?_
  refine m_pure rfl rfl rfl (L_extract rfl rfl) ?_
  refine m_pure rfl rfl rfl (L_extract rfl rfl) ?_
  refine m_done ?_
  refine fk_cons ?_
  rintro r S ⟨rfl,rfl⟩
  refine fk_nil ?_
  refine t_turn 12 rfl rfl (EOp_store rfl rfl rfl (xb1 ty_49) ?_)
  refine tj_ 13 rfl (L_assign rfl) ?_
  refine tj_ 14 rfl (L_assign rfl) ?_
  refine T_done (by kernel_rfl) ?_
  refine G_seq ?_
  refine G_region' (L:=[0,1]) rfl ?_
  refine l_ rfl (L_load rfl (xb0 ty_49)) ?_
  refine EOps_go rfl rfl (EOp_store rfl rfl rfl (xb1 ty_49) ?_)
  refine EOps_nil ?_
  refine G_region' (L:=[0,1,2,3]) rfl ?_
  refine xmv ?_
  refine xmv ?_
  refine p_ rfl xb2 ?_
  refine xas ?_
  refine EOps_nil ?_
  refine G_region' (L:=[0,1,2]) rfl ?_
  refine xmv ?_
  refine p_ rfl xb2 ?_
  refine xas ?_
  refine EOps_nil ?_
  first
   | (refine⟨[0,1,2,3,4,12,13,14,8,9,10,11],rfl,(j+1,ripI Y x,Q,nv+ripIn Y x),?_,?_,(by first|rfl|(dsimp only;rw [← pairs_lenApp Q [x],← pairs_app Q [x]];rfl)),⟨.inr rfl,.inr rfl,.inl rfl,.inl rfl,.inl rfl,trivial⟩,⟨.inr rfl,.inr rfl,.inr rfl,.inr rfl,.inr rfl,.inr rfl,.inr rfl,.inr rfl,.inr rfl,.inr rfl,.inr rfl,.inr rfl,.inr rfl,.inr rfl,.inr rfl,.inr rfl,.inr rfl,trivial⟩⟩)
   | (refine⟨[0,1,2,3,4,13,14,15,8,9,10,11],rfl,(j+1,ripI Y x,Q,nv+ripIn Y x),?_,?_,(by first|rfl|(dsimp only;rw [← pairs_lenApp Q [x],← pairs_app Q [x]];rfl)),⟨.inr rfl,.inr rfl,.inl rfl,.inl rfl,.inl rfl,trivial⟩,⟨.inr rfl,.inr rfl,.inr rfl,.inr rfl,.inr rfl,.inr rfl,.inr rfl,.inr rfl,.inr rfl,.inr rfl,.inr rfl,.inr rfl,.inr rfl,.inr rfl,.inr rfl,.inr rfl,.inr rfl,trivial⟩⟩)
  ·dsimp only;omega
  exact⟨hst,by dsimp only;omega⟩
 have hj0 : j = p.ins.length := by simp [pairs_len] at hc85; omega
 subst hj0
 have hcc : mgC c p r = Y ∧ mgP c p r = ⟨Q, L⟩ ∧ mgN c p r = nv := by
  simp [mgC,mgP,mgN,hk,hgo2,hgo]
 refine G_exit ?_
 refine G_seq ?_
 refine G_drawD [8,9] mixed ?_
 refine d_pure' 2 rfl rfl rfl (L_move rfl) ?_
 refine d_load' 0 rfl rfl rfl rfl rfl (d_bp ty_49) ?_
 refine d_load' 1 rfl rfl rfl rfl rfl (d_bp ty_91) ?_
 refine d_any 3 [] ⟨?_,trivial⟩
 refine d_store' 3 rfl rfl rfl rfl rfl rfl (s_bp ty_49) ?_
 refine d_any 4 [] ⟨?_,trivial⟩
 refine d_store' 4 rfl rfl rfl rfl rfl rfl (s_bp ty_91) ?_
 refine d_pure' 5 rfl rfl rfl (L_assign rfl) ?_
 refine D_done (by kernel_rfl) ?_
 refine G_ret ?_
 rw [hcc.1,hcc.2.1,hcc.2.2]
 first
  | exact⟨_,[5,6,7,10,11],rfl,rfl,rfl,rfl⟩
  | exact⟨_,[5,6,7,11,10],rfl,rfl,rfl,rfl⟩
  | exact⟨_,[5,6,7,9,10],rfl,rfl,rfl,rfl⟩

end Go.Proofs.YtlodlnbhjghjoaaGreat.E
