/- Walks through functions, by program out of the session's annotations. -/
import Derived.Test.YthlhmpknngidmaaGreatA213
import Derived.Test.YthlhmpknngidmaaGreatF4
namespace Go.Proofs.YthlhmpknngidmaaGreat.E
open Go Go.RowKit Go.Proofs
set_option linter.unusedVariables false
set_option linter.unusedSimpArgs false

theorem scN_mem (xs : List Int) (r : Int × Int) : ∀ k, ∀ x ∈ scN xs r k, 0 ≤ x ∧ x < k
 | 0=>by simp [scN]
 | k + 1 => by
  intro x hx
  have h:=scN_mem xs r k
  rw [scN] at hx
  split at hx
  ·rcases List.mem_append.1 hx with hx | hx
   ·have := h x hx
    omega
   ·obtain rfl : x = (k : Int) := by simpa using hx
    omega
  ·have := h x hx
   omega
def swR6 (ti tl:Nat) (s:MSt) (r:Int × Int) (fs:List (Int × Int × Int)) (out:List (List Int)) (sc:List Int) (i:Nat):List Res:=[.box (msC s),.box [.sc (.int .i64 r.1),.sc (.int .i64 r.2)],.box [.ro (trips fs)],.row tl 1 (nest out),.row ti 1 (ints sc),.box [.sc (.int .i64 (i:Int))]]
def swX (s:MSt) (r:Int × Int) (fs:List (Int × Int × Int)) (p:List Int):List (List Int):=if (isMS s && whK s fs p)=true then swL s fs p (scN s.head r s.head.length) else []
theorem wh_parts {s : MSt} {fs : List (Int × Int × Int)} {p : List Int} (h : whK s fs p = true) : fs.length + p.length ≤ 4 ∧ fs.all (okF s) = true ∧ ∀ t ∈ p, isTl s t = true := by
 simp only [whK,Bool.and_eq_true,decide_eq_true_eq] at h
 exact⟨h.1.1,h.1.2,List.all_eq_true.1 h.2⟩
theorem okF_at {s : MSt} {fs : List (Int × Int × Int)} (h : fs.all (okF s) = true) {k : Nat} {f : Int × Int × Int} (hf : fs[k]? = some f) : isTl s f.1 = true := by
 have:=List.all_eq_true.1 h f (List.mem_of_getElem? hf)
 simp only [okF,Bool.and_eq_true] at this
 exact this.1

theorem g_forD_A214_0 {P : Program} {N n : Nat} {s : Slots} {R : List Res} {Q : Exit → Slots → List Res → Prop} {α : Type} {c : Code} (keep : List Nat) (mods : α → Slots) (Rf : α → List Res) (I : α → Prop) (m : α → Nat) (x0 : α) {base : Slots} (h0 : I x0) (hR : R = Rf x0) (h1 : chk s (mods x0))
  (round:∀ x,I x→GCode P N n c (mods x++base) (Rf x) (EThen (fun s' R'=>∃ σ,okσ n R' σ=true ∧ ∃ y,m y<m x∧I y∧reR n σ R'=Rf y∧chk (renS n σ s') (mods y)∧chk (renS n σ s') base) Q)) (hb:keepOf s keep=base:=by simp only [E.keepOf,E.get,E.ev,E.cv,E.fill',E.fill,E.slotsOf,Res.sh,AC.sh,AC.sh.shs,AV.sh,E.splice,List.map_cons,List.map_nil,List.cons_append,List.nil_append,List.append_nil,List.length_cons,List.length_nil,List.take_zero,List.drop_zero,List.take_succ_cons,List.drop_succ_cons,List.drop_nil,List.take_nil,List.set_cons_zero,List.set_cons_succ,Nat.zero_add,Nat.add_zero,Nat.reduceAdd,Nat.reduceSub,reduceIte,Nat.reduceEqDiff,E.back,E.backR,E.ix,Res.un,AC.un,AC.un.uns,AV.un,E.un,Option.map_some,Option.map_none,Option.getD_some,List.getElem?_cons_zero,List.getElem?_cons_succ,List.getElem?_nil,swR6];rfl):GCode P N n (.loop c) s R Q:=G_forD keep mods Rf I m x0 hb h0 hR h1 round
theorem g_tidy_A214_1 {P:Program} {N n:Nat} {s:Slots} {R:List Res} {Q:Exit→Slots→List Res→Prop} {c:Code} (keep:List Nat) {base:Slots} {R':List Res} (h:GCode P N n c base R' Q) (hb:keepOf s keep=base:=by simp only [E.keepOf,E.get,E.ev,E.cv,E.fill',E.fill,E.slotsOf,Res.sh,AC.sh,AC.sh.shs,AV.sh,E.splice,List.map_cons,List.map_nil,List.cons_append,List.nil_append,List.append_nil,List.length_cons,List.length_nil,List.take_zero,List.drop_zero,List.take_succ_cons,List.drop_succ_cons,List.drop_nil,List.take_nil,List.set_cons_zero,List.set_cons_succ,Nat.zero_add,Nat.add_zero,Nat.reduceAdd,Nat.reduceSub,reduceIte,Nat.reduceEqDiff,E.back,E.backR,E.ix,Res.un,AC.un,AC.un.uns,AV.un,E.un,Option.map_some,Option.map_none,Option.getD_some,List.getElem?_cons_zero,List.getElem?_cons_succ,List.getElem?_nil,swR6];rfl) (hR:R=R':=by (try simp only [E.keepOf,E.get,E.ev,E.cv,E.fill',E.fill,E.slotsOf,Res.sh,AC.sh,AC.sh.shs,AV.sh,E.splice,List.map_cons,List.map_nil,List.cons_append,List.nil_append,List.append_nil,List.length_cons,List.length_nil,List.take_zero,List.drop_zero,List.take_succ_cons,List.drop_succ_cons,List.drop_nil,List.take_nil,List.set_cons_zero,List.set_cons_succ,Nat.zero_add,Nat.add_zero,Nat.reduceAdd,Nat.reduceSub,reduceIte,Nat.reduceEqDiff,E.back,E.backR,E.ix,Res.un,AC.un,AC.un.uns,AV.un,E.un,Option.map_some,Option.map_none,Option.getD_some,List.getElem?_cons_zero,List.getElem?_cons_succ,List.getElem?_nil,swR6]);rfl):GCode P N n c s R Q:=G_tidy keep hb hR h
theorem g_tidy_A214_2 {P:Program} {N n:Nat} {s:Slots} {R:List Res} {Q:Exit→Slots→List Res→Prop} {c:Code} (keep:List Nat) {base:Slots} {R':List Res} (h:GCode P N n c base R' Q) (hb:keepOf s keep=base:=by simp only [E.keepOf,E.get,E.ev,E.cv,E.fill',E.fill,E.slotsOf,Res.sh,AC.sh,AC.sh.shs,AV.sh,E.splice,List.map_cons,List.map_nil,List.cons_append,List.nil_append,List.append_nil,List.length_cons,List.length_nil,List.take_zero,List.drop_zero,List.take_succ_cons,List.drop_succ_cons,List.drop_nil,List.take_nil,List.set_cons_zero,List.set_cons_succ,Nat.zero_add,Nat.add_zero,Nat.reduceAdd,Nat.reduceSub,reduceIte,Nat.reduceEqDiff,E.back,E.backR,E.ix,Res.un,AC.un,AC.un.uns,AV.un,E.un,Option.map_some,Option.map_none,Option.getD_some,List.getElem?_cons_zero,List.getElem?_cons_succ,List.getElem?_nil,msR,msO,swR6];rfl) (hR:R=R':=by (try simp only [E.keepOf,E.get,E.ev,E.cv,E.fill',E.fill,E.slotsOf,Res.sh,AC.sh,AC.sh.shs,AV.sh,E.splice,List.map_cons,List.map_nil,List.cons_append,List.nil_append,List.append_nil,List.length_cons,List.length_nil,List.take_zero,List.drop_zero,List.take_succ_cons,List.drop_succ_cons,List.drop_nil,List.take_nil,List.set_cons_zero,List.set_cons_succ,Nat.zero_add,Nat.add_zero,Nat.reduceAdd,Nat.reduceSub,reduceIte,Nat.reduceEqDiff,E.back,E.backR,E.ix,Res.un,AC.un,AC.un.uns,AV.un,E.un,Option.map_some,Option.map_none,Option.getD_some,List.getElem?_cons_zero,List.getElem?_cons_succ,List.getElem?_nil,msR,msO,swR6]);rfl):GCode P N n c s R Q:=G_tidy keep hb hR h
theorem g_forD_A214_3 {P : Program} {N n : Nat} {s : Slots} {R : List Res} {Q : Exit → Slots → List Res → Prop} {α : Type} {c : Code} (keep : List Nat) (mods : α → Slots) (Rf : α → List Res) (I : α → Prop) (m : α → Nat) (x0 : α) {base : Slots} (h0 : I x0) (hR : R = Rf x0) (h1 : chk s (mods x0))
  (round:∀ x,I x→GCode P N n c (mods x++base) (Rf x) (EThen (fun s' R'=>∃ σ,okσ n R' σ=true ∧ ∃ y,m y<m x∧I y∧reR n σ R'=Rf y∧chk (renS n σ s') (mods y)∧chk (renS n σ s') base) Q)) (hb:keepOf s keep=base:=by simp only [E.keepOf,E.get,E.ev,E.cv,E.fill',E.fill,E.slotsOf,Res.sh,AC.sh,AC.sh.shs,AV.sh,E.splice,List.map_cons,List.map_nil,List.cons_append,List.nil_append,List.append_nil,List.length_cons,List.length_nil,List.take_zero,List.drop_zero,List.take_succ_cons,List.drop_succ_cons,List.drop_nil,List.take_nil,List.set_cons_zero,List.set_cons_succ,Nat.zero_add,Nat.add_zero,Nat.reduceAdd,Nat.reduceSub,reduceIte,Nat.reduceEqDiff,E.back,E.backR,E.ix,Res.un,AC.un,AC.un.uns,AV.un,E.un,Option.map_some,Option.map_none,Option.getD_some,List.getElem?_cons_zero,List.getElem?_cons_succ,List.getElem?_nil,msR,msO,swR6];rfl):GCode P N n (.loop c) s R Q:=G_forD keep mods Rf I m x0 hb h0 hR h1 round

set_option maxRecDepth 20000 in
set_option maxHeartbeats 2000000 in
theorem c_impl_ScanWhere_1 (s : MSt) (r : Int × Int) (fs : List (Int × Int × Int)) (out : List (List Int)) (sc : List Int) (i k : Nat) (f : Int × Int × Int) (l : List Int) (v : Int) (hf : fs[k]? = some f) (h0 : 0 ≤ f.1) (hl : s.tails[f.1.toNat]? = some l) (hv : l[i]? = some v) : EFn Tryz.prog 80 [.c (.sc (.int .i64 (k : Int))), .c (.bp 0 0), .c (.bp 2 0), .c (.bp 5 0)] (swR6 3 22 s r fs out sc i ++ [.box [.sc (.int .i64 f.1), .sc (.int .i64 f.2.1), .sc (.int .i64 f.2.2)]]) (fun y R' => y = .c (.sc (.int .i64 v)) ∧ R' = swR6 3 22 s r fs out sc i ++ [.box [.sc (.int .i64 f.1), .sc (.int .i64 f.2.1), .sc (.int .i64 f.2.2)]]) := by
 refine E_fnS Tryz.func80 rfl (Nat.le_of_ble_eq_true rfl) ?_
 have hnf:=trips_at hf
 have hnl:=nest_get hl
 have hnv:=ints_at hv
 have hfl:=trips_len fs
 have hkl:=lt_of_atT hf
 have htl:=nest_len s.tails
 have hll:=lt_of_atT hl
 have hil:=lt_of_atT hv
 refine E_seq ?_
 refine E_region' (L:=[0]) rfl ?_
 refine xas ?_
 refine EOps_nil ?_
 refine E_seq ?_
 refine E_drawT mixed ?_
 refine t_old 0 rfl rfl rfl (l_field rfl fo_31_1) ?_
 refine t_light 1 rfl rfl rfl (L_load rfl (xb0 ty_23)) ?_
 refine t_light 2 rfl rfl rfl (L_load rfl (xb0 ty_45)) ?_
 refine t_old 3 rfl rfl rfl (L_move rfl) ?_
 refine t_old 4 rfl rfl rfl (L_index rfl rfl (by first|exact i_ro sl_45 ty_104|exact i_sl sl_45 ty_104)) ?_
 refine t_old 5 rfl rfl rfl (l_field rfl fo_104_0) ?_
 refine t_light 6 rfl rfl rfl (L_load rfl (xb0 ty_3)) ?_
 refine t_old 7 rfl rfl rfl (L_index rfl rfl (by first|exact i_ro sl_23 ty_22|exact i_sl sl_23 ty_22)) ?_
 refine t_light 8 rfl rfl rfl (L_load rfl (xb0 ty_22)) ?_
 refine t_light 9 rfl rfl rfl (L_load rfl (xb0 ty_3)) ?_
 refine t_old 10 rfl rfl rfl (L_index rfl rfl (by first|exact i_ro sl_22 ty_3|exact i_sl sl_22 ty_3)) ?_
 refine t_light 11 rfl rfl rfl (L_load rfl (xb0 ty_3)) ?_
 refine t_old 12 rfl rfl rfl (L_assign rfl) ?_
 refine T_done (by kernel_rfl) ?_
 refine E_ret ?_
 exact⟨_,rfl,rfl,rfl⟩

set_option maxRecDepth 20000 in
set_option maxHeartbeats 2000000 in
theorem c_impl_passes (s : MSt) (r : Int × Int) (fs : List (Int × Int × Int)) (out : List (List Int)) (sc : List Int) (i : Nat) (hs : isMS s = true) (hw : fs.all (okF s) = true) (hi : i < s.head.length) (hfb : fs.length ≤ 1048576) : EFn Tryz.prog 79 [.c (.ro (trips fs)), .c (.fn 80 [.bp 0 0, .bp 2 0, .bp 5 0])] (swR6 3 22 s r fs out sc i) (fun y R' => y = .c (.sc (.bool (passB s fs i))) ∧ R' = swR6 3 22 s r fs out sc i) := by
 refine E_fnS Tryz.func79 rfl (Nat.le_of_ble_eq_true rfl) ?_
 refine E_G (n:=6) rfl ?_
 have hfl:=trips_len fs
 refine G_seq ?_
 refine G_region' (L:=[0]) rfl ?_
 refine xas ?_
 refine EOps_nil ?_
 refine G_seq ?_
 refine G_seq ?_
 refine G_region' (L:=[0,1,2]) rfl ?_
 refine xmv ?_
 refine x_pure rfl rfl rfl (l_len rfl sl_45) ?_
 refine xmv ?_
 refine EOps_nil ?_
 refine G_block ?_
 refine g_forD_A214_0 (α:=Nat) [0,1,7,8] (fun k=>[(9,.c (.sc (.int .i64 (k)))),(5,.any),(6,.any)]) (fun k=>swR6 3 22 s r fs out sc i) (fun k=>k≤fs.length∧(fs.take k).all (fun f=>inR f.2 (cellT s f.1 i))=true) (fun k=>fs.length - k) (0) ?_ (rfl) ⟨.inr rfl,.inl rfl,.inl rfl,trivial⟩ ?_
 ·exact⟨Nat.zero_le _,rfl⟩
 rintro k ⟨hk,hall⟩
 refine G_seq ?_
 refine G_region' (L:=[0]) rfl ?_
 refine x_pure rfl rfl rfl (L_bin rfl rfl rfl rfl) ?_
 refine EOps_nil ?_
 refine G_seq ?_
 refine G_cond rfl (fun hc10=>?_) (fun hc10=>?_)
 ·have hk1 : k < fs.length := by simpa [trips_len] using hc10
  obtain⟨f,hx⟩:=at_lt hk1
  have hnx:=trips_at hx
  have hst:=all_step (f:=fun f:Int × Int × Int=>inR f.2 (cellT s f.1 i)) hx
  obtain⟨l,v,hl,hv,hcv,h0⟩:=cell_at hs (okF_at hw hx) hi
  refine G_skip ?_
  refine G_seq ?_
  refine G_block ?_
  refine G_seq ?_
  refine G_region' (L:=[0,1,2,3,4,5]) rfl ?_
  refine xmv ?_
  refine x_pure rfl rfl rfl (L_index rfl rfl (by first|exact i_ro sl_45 ty_104|exact i_sl sl_45 ty_104)) ?_
  refine x_light rfl rfl rfl (L_load rfl (xb0 ty_104)) ?_
  refine x_alloc rfl rfl rfl rfl za_104 ?_
  refine xas ?_
  refine EOps_go rfl rfl (EOp_store rfl rfl rfl (xb1 ty_104) ?_)
  refine EOps_nil ?_
  refine G_seq ?_
  refine g_tidy_A214_1 [0,1,4,5,6,7,8,9,10,20] ?_
  refine G_drawU mixed ?_
  refine u_pure 0 rfl rfl rfl (l_field rfl fo_104_1) ?_
  refine u_pure 2 rfl rfl rfl (L_move rfl) ?_
  refine u_pure 3 rfl rfl rfl (L_move rfl) ?_
  refine u_any 1 [4] ⟨?_,?_,trivial⟩
  ·refine u_op 1 rfl rfl (EOp_light rfl (by decide) (L_load rfl (xb13 ty_43)) ?_)
   refine u_any 4 [] ⟨?_,trivial⟩
   refine u_op 4 rfl rfl (xe1 rfl rfl rfl ca_16 (c_impl_ScanWhere_1 s r fs out sc i k f l v hx h0 hl hv) ?_)
   rintro r S ⟨rfl,rfl⟩
   refine u_any 5 [] ⟨?_,trivial⟩
   refine u_call 5 rfl rfl rfl rfl rfl ca_134 (c_impl_InRange f.2 v) ?_
   rintro r S ⟨rfl,rfl⟩
   refine u_pure 6 rfl rfl rfl (L_not rfl rfl) ?_
   refine u_done ?_
   refine G_cond rfl (fun hc20=>?_) (fun hc20=>?_)
   ·have ho : inR f.2 (cellT s f.1 i) = false := by rw [hcv]; simpa using hc20
    have hp:passB s fs i=false:=all_no (f:=fun f:Int × Int × Int=>inR f.2 (cellT s f.1 i)) hx ho
    refine G_seq ?_
    refine G_region' (L:=[0]) rfl ?_
    refine xas ?_
    refine EOps_nil ?_
    refine G_drop [4] [] rfl rfl rfl ?_
    refine G_ret ?_
    rw [hp]
    exact⟨_,rfl,rfl,rfl⟩
   ·have ho : inR f.2 (cellT s f.1 i) = true := by rw [hcv]; simpa using hc20
    refine G_skip ?_
    refine G_region' (L:=[0,1]) rfl ?_
    refine x_pure rfl rfl rfl xb2 ?_
    refine xmv ?_
    refine EOps_nil ?_
    refine⟨[],rfl,k+1,?_,?_,rfl,⟨.inr rfl,.inl rfl,.inl rfl,trivial⟩,⟨.inr rfl,.inr rfl,.inr rfl,.inr rfl,trivial⟩⟩
    ·first|omega|(dsimp only;omega)|(simp;omega)
    ·exact⟨by omega,by rw [hst,hall,ho];rfl⟩
  ·refine u_op 4 rfl rfl (xe1 rfl rfl rfl ca_16 (c_impl_ScanWhere_1 s r fs out sc i k f l v hx h0 hl hv) ?_)
   rintro r S ⟨rfl,rfl⟩
   refine u_any 1 [] ⟨?_,trivial⟩
   refine u_op 1 rfl rfl (EOp_light rfl (by decide) (L_load rfl (xb0 ty_43)) ?_)
   refine u_any 5 [] ⟨?_,trivial⟩
   refine u_call 5 rfl rfl rfl rfl rfl ca_134 (c_impl_InRange f.2 v) ?_
   rintro r S ⟨rfl,rfl⟩
   refine u_pure 6 rfl rfl rfl (L_not rfl rfl) ?_
   refine u_done ?_
   refine G_cond rfl (fun hc20=>?_) (fun hc20=>?_)
   ·have ho : inR f.2 (cellT s f.1 i) = false := by rw [hcv]; simpa using hc20
    have hp:passB s fs i=false:=all_no (f:=fun f:Int × Int × Int=>inR f.2 (cellT s f.1 i)) hx ho
    refine G_seq ?_
    refine G_region' (L:=[0]) rfl ?_
    refine xas ?_
    refine EOps_nil ?_
    refine G_drop [4] [] rfl rfl rfl ?_
    refine G_ret ?_
    rw [hp]
    exact⟨_,rfl,rfl,rfl⟩
   ·have ho : inR f.2 (cellT s f.1 i) = true := by rw [hcv]; simpa using hc20
    refine G_skip ?_
    refine G_region' (L:=[0,1]) rfl ?_
    refine x_pure rfl rfl rfl xb2 ?_
    refine xmv ?_
    refine EOps_nil ?_
    refine⟨[],rfl,k+1,?_,?_,rfl,⟨.inr rfl,.inl rfl,.inl rfl,trivial⟩,⟨.inr rfl,.inr rfl,.inr rfl,.inr rfl,trivial⟩⟩
    ·first|omega|(dsimp only;omega)|(simp;omega)
    ·exact⟨by omega,by rw [hst,hall,ho];rfl⟩
 ·have hk2 : fs.length ≤ k := by simpa [trips_len] using hc10
  rw [List.take_of_length_le hk2] at hall
  have hp:passB s fs i=true:=hall
  refine G_exit ?_
  refine G_seq ?_
  refine G_region' (L:=[0]) rfl ?_
  refine xas ?_
  refine EOps_nil ?_
  refine G_drop [4] [] rfl rfl rfl ?_
  refine G_ret ?_
  rw [hp]
  exact⟨_,rfl,rfl,rfl⟩

set_option maxRecDepth 20000 in
set_option maxHeartbeats 8000000 in
theorem c_impl_ScanWhere (s : MSt) (r : Int × Int) (fs : List (Int × Int × Int)) (p : List Int) (hz : msZ s ≤ 1048576) (hf : fs.length ≤ 1048576) (hp : p.length ≤ 1048576) : EFn Tryz.prog 22 [.agg (msC s), .agg [.sc (.int .i64 r.1), .sc (.int .i64 r.2)], .c (.ro (trips fs)), .c (.ro (ints p))] [] (fun y S => y = .c (.sl 0 0 (swX s r fs p).length (swX s r fs p).length) ∧ S = [.row 22 1 (nest (swX s r fs p))]) := by
  refine E_fn Tryz.func22 rfl (Nat.le_of_ble_eq_true rfl) ?_
  refine E_G (n:=0) rfl ?_
  have hfl:=trips_len fs
  have hpl:=ints_len p
  have hnl:=nest_len s.tails
  have hhl:=(mst_le hz).1
  refine G_seq ?_
  refine G_region' (L:=[0,1,2,3]) rfl ?_
  refine x_box rfl rfl rfl rfl rfl ?_
  refine x_box rfl rfl rfl rfl rfl ?_
  refine x_box rfl rfl rfl rfl rfl ?_
  refine xas ?_
  refine EOps_nil ?_
  refine G_seq ?_
  refine G_seq ?_
  refine g_tidy_A214_2 [0,1,2,3,4,5,6,8] ?_
  refine G_region' (L:=[0,1,2,3,4,5,6,7,8,9]) rfl ?_
  refine x_light rfl rfl rfl (L_load rfl (xb0 ty_31)) ?_
  refine x_call rfl rfl rfl rfl rfl ca_40 (c_impl_IsMapSet s hz) ?_
  rintro r S ⟨rfl,rfl⟩
  refine x_pure rfl rfl rfl (L_not rfl rfl) ?_
  refine xmv ?_
  refine EOps_split 18 (b:=_) rfl (fun hg18=>?_) (fun hg18=>?_)
  · refine x_skip rfl rfl rfl ?_
    refine x_skip rfl rfl rfl ?_
    refine x_skip rfl rfl rfl ?_
    refine x_skip rfl rfl rfl ?_
    refine x_skip rfl rfl rfl ?_
    refine x_pure rfl rfl rfl (L_pick rfl rfl) ?_
    refine EOps_nil ?_
    refine G_cond rfl (fun hc24=>?_) (fun hc24=>?_)
    · have hX : swX s r fs p = [] := by
        rw [swX,if_neg]
        intro h
        simp only [Bool.and_eq_true] at h
        first
          | (simp [h.1] at hg18;done)
          | (simp [h.2] at hc24;done)
      refine G_seq ?_
      refine G_region' (L:=[0]) rfl ?_
      refine xas ?_
      refine EOps_nil ?_
      refine G_ghostS 8 22 1 rfl (by decide) ?_
      refine G_ret ?_
      first
        | (rw [hX];exact⟨_,[3],rfl,rfl,rfl,rfl⟩)
        | (rw [hX];exact⟨_,[4],rfl,rfl,rfl,rfl⟩)
        | (rw [hX];exact⟨_,[5],rfl,rfl,rfl,rfl⟩)
    · exact Bool.noConfusion (hc24:true=false)
  · refine x_light rfl rfl rfl (L_load rfl (xb13 ty_31)) ?_
    refine x_light rfl rfl rfl (L_load rfl (xb0 ty_45)) ?_
    refine xmv ?_
    refine x_call rfl rfl rfl rfl rfl ca_77 (c_impl_isWhere s fs p hf hp) ?_
    rintro r S ⟨rfl,rfl⟩
    refine x_pure rfl rfl rfl (L_not rfl rfl) ?_
    refine x_pure rfl rfl rfl (L_pick rfl rfl) ?_
    refine EOps_nil ?_
    refine G_cond rfl (fun hc24=>?_) (fun hc24=>?_)
    · have hX : swX s r fs p = [] := by
        rw [swX,if_neg]
        intro h
        simp only [Bool.and_eq_true] at h
        first
          | (simp [h.1] at hg18;done)
          | (simp [h.2] at hc24;done)
      refine G_seq ?_
      refine G_region' (L:=[0]) rfl ?_
      refine xas ?_
      refine EOps_nil ?_
      refine G_ghostS 8 22 1 rfl (by decide) ?_
      refine G_ret ?_
      first
        | (rw [hX];exact⟨_,[3],rfl,rfl,rfl,rfl⟩)
        | (rw [hX];exact⟨_,[4],rfl,rfl,rfl,rfl⟩)
        | (rw [hX];exact⟨_,[5],rfl,rfl,rfl,rfl⟩)
    · have h1 : isMS s = true := by simpa using hg18
      have h2:whK s fs p=true:=by simpa using hc24
      have hX:swX s r fs p=swL s fs p (scN s.head r s.head.length):=by rw [swX,if_pos (by simp [h1,h2])]
      obtain⟨w1,w2,w3⟩:=wh_parts h2
      refine G_skip ?_
      refine G_seq ?_
      refine G_region' (L:=[0,1]) rfl ?_
      refine EOps_go rfl rfl (Heavy.op (H_bslice rfl rfl (by decide) sl_23 ty_22 za_22 ⟨rfl,by decide⟩ (by decide) rfl rfl rfl rfl ?_))
      refine xas ?_
      refine EOps_nil ?_
      refine G_seq ?_
      refine G_seq ?_
      refine g_tidy_A214_2 [0,1,2,3,4,5,6,8,9,24] ?_
      refine G_region' (L:=[0,1,2,3,4,5]) rfl ?_
      refine x_pure rfl rfl rfl (l_field rfl fo_31_0) ?_
      refine x_light rfl rfl rfl (L_load rfl (xb0 ty_22)) ?_
      refine x_light rfl rfl rfl (L_load rfl (xb0 ty_43)) ?_
      refine x_call rfl rfl rfl rfl rfl ca_78 (c_impl_ScanRange s.head r hhl) ?_
      rintro r S ⟨rfl,rfl⟩
      have hscm:=scN_mem s.head r s.head.length
      have hscl:=scN_len s.head r s.head.length
      generalize scN s.head r s.head.length=sc at *
      refine x_pure rfl rfl rfl (l_len rfl sl_22) ?_
      refine xmv ?_
      refine EOps_nil ?_
      refine G_block ?_
      have hil:=ints_len sc
      refine g_forD_A214_3 (α:=Nat) [0,1,2,3,4,5,6,8,24,29,30] (fun k=>[(31,.c (.sc (.int .i64 (k)))),(9,.c (.sl 3 0 (swL s fs p (sc.take k)).length (swL s fs p (sc.take k)).length)),(11,.any),(12,.any),(14,.any)]) (fun k=>[.box (msC s),.box [.sc (.int .i64 r.1),.sc (.int .i64 r.2)],.box [.ro (trips fs)],.row 22 1 (nest (swL s fs p (sc.take k))),.row 3 1 (ints sc)]) (fun k=>k≤sc.length) (fun k=>sc.length - k) (0) ?_ (rfl) ⟨.inr rfl,.inr rfl,.inl rfl,.inl rfl,.inl rfl,trivial⟩ ?_
      · simp
      rintro k hk
      have hol:=swL_len s fs p (sc.take k)
      have htk:(sc.take k).length≤sc.length:=by rw [List.length_take];omega
      have hnol:=nest_len (swL s fs p (sc.take k))
      refine G_seq ?_
      refine G_region' (L:=[0]) rfl ?_
      refine x_pure rfl rfl rfl (L_bin rfl rfl rfl rfl) ?_
      refine EOps_nil ?_
      refine G_seq ?_
      refine G_cond rfl (fun hc32=>?_) (fun hc32=>?_)
      · have hc32' : k < (sc).length := by simpa [ints_len, bools_len, pairs_len, quads_len, quints_len] using hc32
        obtain⟨q,hx⟩:∃ x,(sc)[k]? = some x:=⟨_,List.getElem?_eq_getElem hc32'⟩
        have hq:=hscm q (List.mem_of_getElem? hx)
        obtain⟨i,rfl⟩:∃ i:Nat,q=(i:Int):=⟨q.toNat,by omega⟩
        have hi:i<s.head.length:=by omega
        have hst0:=swL_app s fs p (sc.take k) (i:Int)
        rw [← take_snoc hx,Int.toNat_natCast] at hst0
        refine G_skip ?_
        refine G_seq ?_
        refine G_block ?_
        refine G_seq ?_
        refine G_region' (L:=[0,1,2,3]) rfl ?_
        refine x_pure rfl rfl rfl (L_index rfl rfl (by first|exact i_ro sl_22 ty_3|exact i_sl sl_22 ty_3)) ?_
        refine x_light rfl rfl rfl (L_load rfl (xb0 ty_3)) ?_
        refine x_alloc rfl rfl rfl rfl za_3 ?_
        refine EOps_go rfl rfl (EOp_store rfl rfl rfl (xb1 ty_3) ?_)
        refine EOps_nil ?_
        refine G_seq ?_
        refine G_seq ?_
        refine g_tidy_A214_2 [0,1,2,3,4,5,6,8,9,11,12,14,24,29,30,31,32,38,40,41,42,43] ?_
        refine G_region' (L:=[0,1,2,3]) rfl ?_
        refine x_light rfl rfl rfl (L_load rfl (xb0 ty_45)) ?_
        refine x_pure rfl rfl rfl (L_func rfl rfl) ?_
        refine EOps_go rfl rfl (xe2 rfl rfl rfl ca_79 (c_impl_passes s r fs (swL s fs p (sc.take k)) sc i h1 w2 hi hf) ?_)
        rintro r S ⟨rfl,rfl⟩
        refine x_pure rfl rfl rfl (L_not rfl rfl) ?_
        refine EOps_nil ?_
        refine G_cond rfl (fun hc38=>?_) (fun hc38=>?_)
        · have hpb : passB s fs i = false := by simpa using hc38
          have hst:swL s fs p (sc.take (k+1))=swL s fs p (sc.take k):=by rw [hst0,if_neg (by simp [hpb])]
          refine G_exit ?_
          first
            | refine (X_absorb 3 out.length 0 7 6 rfl (nest_at out w) rfl rfl rfl (ints_len _) (by decide) rfl).G fun _=>?_
            | skip
          refine G_region' (L:=[0,1]) rfl ?_
          refine x_pure rfl rfl rfl xb2 ?_
          refine xmv ?_
          refine EOps_nil ?_
          refine⟨[0,1,2,3,4],rfl,k+1,?_,?_,by
  rw [hst]
  first
    | rfl
    | (rw [← nest_push out w (tupT s p i)]; rfl), ⟨.inr rfl, .inr ((by rw [hst] <;> first | rfl | (rw [show (out ++ [tupT s p i]).length = out.length + (vrow [w]).length by simp [vrow_len]] <;> rfl))), .inl rfl, .inl rfl, .inl rfl, trivial⟩, ⟨.inr rfl, .inr rfl, .inr rfl, .inr rfl, .inr rfl, .inr rfl, .inr rfl, .inr rfl, .inr rfl, .inr rfl, .inr rfl, trivial⟩⟩
          · first|omega|(dsimp only;omega)|(simp;omega)
          · first|trivial|omega|(dsimp only;omega)|(simp;omega)
        · have hpb : passB s fs i = true := by simpa using hc38
          have hst:swL s fs p (sc.take (k+1))=swL s fs p (sc.take k)++[tupT s p i]:=by rw [hst0,if_pos hpb]
          generalize swL s fs p (sc.take k)=out at *
          refine G_skip ?_
          refine G_seq ?_
          refine G_region' (L:=[0,1]) rfl ?_
          refine EOps_go rfl rfl (Heavy.op (H_bslice rfl rfl (by decide) sl_22 ty_3 za_3 ⟨rfl,by decide⟩ (by decide) rfl rfl rfl rfl ?_))
          refine xas ?_
          refine EOps_nil ?_
          refine G_seq ?_
          refine G_seq ?_
          refine G_region' (L:=[0,1,2]) rfl ?_
          refine xmv ?_
          refine x_pure rfl rfl rfl (l_len rfl sl_22) ?_
          refine xmv ?_
          refine EOps_nil ?_
          refine G_block ?_
          refine g_forD_A214_3 (α:=Nat) [0,1,2,3,4,5,6,8,9,11,24,29,30,31,32,38,40,41] (fun j=>[(42,.c (.sc (.int .i64 (j)))),(12,.c (.sl 6 0 (tupT s (p.take j) i).length (tupT s (p.take j) i).length)),(14,.any)]) (fun j=>[.box (msC s),.box [.sc (.int .i64 r.1),.sc (.int .i64 r.2)],.box [.ro (trips fs)],.row 22 1 (nest out),.row 3 1 (ints sc),.box [.sc (.int .i64 (i:Int))],.row 3 1 (ints (tupT s (p.take j) i))]) (fun j=>j≤p.length) (fun j=>p.length - j) (0) ?_ (rfl) ⟨.inr rfl,.inr rfl,.inl rfl,trivial⟩ ?_
          · simp
          rintro j hj
          have htp:=tupT_len s (p.take j) i
          have htj:(p.take j).length≤p.length:=by rw [List.length_take];omega
          refine G_seq ?_
          refine G_region' (L:=[0]) rfl ?_
          refine x_pure rfl rfl rfl (L_bin rfl rfl rfl rfl) ?_
          refine EOps_nil ?_
          refine G_seq ?_
          refine G_cond rfl (fun hc43=>?_) (fun hc43=>?_)
          · have hc43' : j < (p).length := by simpa [ints_len, bools_len, pairs_len, quads_len, quints_len] using hc43
            obtain⟨t,ht⟩:∃ x,(p)[j]? = some x:=⟨_,List.getElem?_eq_getElem hc43'⟩
            obtain⟨l,v,hl,hv,hcv,h0⟩:=cell_at h1 (w3 t (List.mem_of_getElem? ht)) hi
            have hnlt:=nest_get hl
            have hnv:=ints_at hv
            have hstj:=tupT_step (s:=s) (i:=i) ht
            rw [hcv] at hstj
            have hll:=lt_of_atT hl
            have hvl:=lt_of_atT hv
            refine G_skip ?_
            refine G_seq ?_
            refine G_block ?_
            refine G_seq ?_
            refine G_region' (L:=[0,1,2]) rfl ?_
            refine x_pure rfl rfl rfl (L_index rfl rfl (by first|exact i_ro sl_22 ty_3|exact i_sl sl_22 ty_3)) ?_
            refine x_light rfl rfl rfl (L_load rfl (xb0 ty_3)) ?_
            refine xas ?_
            refine EOps_nil ?_
            refine G_drawT mixed ?_
            refine t_old 0 rfl rfl rfl (L_move rfl) ?_
            refine t_old 1 rfl rfl rfl (l_field rfl fo_31_1) ?_
            refine t_light 2 rfl rfl rfl (L_load rfl (xb0 ty_23)) ?_
            refine t_old 3 rfl rfl rfl (L_move rfl) ?_
            refine t_old 4 rfl rfl rfl (L_index rfl rfl (by first|exact i_ro sl_23 ty_22|exact i_sl sl_23 ty_22)) ?_
            refine t_light 5 rfl rfl rfl (L_load rfl (xb0 ty_22)) ?_
            refine t_light 6 rfl rfl rfl (L_load rfl (xb0 ty_3)) ?_
            refine t_old 7 rfl rfl rfl (L_index rfl rfl (by first|exact i_ro sl_22 ty_3|exact i_sl sl_22 ty_3)) ?_
            refine t_light 8 rfl rfl rfl (L_load rfl (xb0 ty_3)) ?_
            refine t_turn 9 rfl rfl (Heavy.op (H_bslice_ro rfl rfl (by decide) sl_22 ty_3 za_3 ⟨rfl,by decide⟩ (by decide) rfl rfl rfl rfl ?_))
            refine t_turn 10 rfl rfl (EOp_append (news:=ints [v]) rfl rfl (by decide) sl_22 ty_3 by_3 za_3 ⟨rfl,by decide⟩ rfl (by first|rfl|assumption) xb6 xb7 xb8 xb9 ?_)
            refine t_old 11 rfl rfl rfl (L_assign rfl) ?_
            refine T_done (by kernel_rfl) ?_
            refine G_region' (L:=[0,1]) rfl ?_
            refine x_pure rfl rfl rfl xb2 ?_
            refine xmv ?_
            refine EOps_nil ?_
            refine⟨[0,1,2,3,4,5,6],rfl,j+1,?_,?_,(by rw [hstj]<;>first|rfl|(rw [← ints_app];rfl)),⟨.inr rfl,.inr ((by rw [hstj]<;>first|rfl|(rw [← ints_lenApp];rfl))),.inl rfl,trivial⟩,⟨.inr rfl,.inr rfl,.inr rfl,.inr rfl,.inr rfl,.inr rfl,.inr rfl,.inr rfl,.inr rfl,.inr rfl,.inr rfl,.inr rfl,.inr rfl,.inr rfl,.inr rfl,.inr rfl,.inr rfl,.inr rfl,trivial⟩⟩
            · first|omega|(dsimp only;omega)|(simp;omega)
            · first|trivial|omega|(dsimp only;omega)|(simp;omega)
          · have hj2 : p.length ≤ j := by simpa [ints_len] using hc43
            rw [List.take_of_length_le hj2]
            refine G_exit ?_
            refine G_region' (L:=[0,1,2,3,4]) rfl ?_
            refine xmv ?_
            refine xmv ?_
            refine (X_pin 59 rfl).X fun w=>?_
            refine EOps_go rfl rfl (Heavy.op (H_bslice_ro rfl rfl (by decide) sl_23 ty_22 za_22 ⟨rfl,by decide⟩ (by decide) rfl rfl rfl rfl ?_))
            refine EOps_go rfl rfl (EOp_append (news:=(vrow [w])) rfl rfl (by decide) sl_23 ty_22 by_22 za_22 ⟨rfl,by decide⟩ rfl (by first|rfl|assumption) xb6 xb7 (by exact vrow_row _) (by simp [vrow_len];omega) ?_)
            refine xas ?_
            refine EOps_nil ?_
            first
              | refine (X_absorb 3 out.length 0 7 6 rfl (nest_at out w) rfl rfl rfl (ints_len _) (by decide) rfl).G fun _=>?_
              | skip
            refine G_region' (L:=[0,1]) rfl ?_
            refine x_pure rfl rfl rfl xb2 ?_
            refine xmv ?_
            refine EOps_nil ?_
            refine⟨[0,1,2,3,4],rfl,k+1,?_,?_,by
  rw [hst]
  first
    | rfl
    | (rw [← nest_push out w (tupT s p i)]; rfl), ⟨.inr rfl, .inr ((by rw [hst] <;> first | rfl | (rw [show (out ++ [tupT s p i]).length = out.length + (vrow [w]).length by simp [vrow_len]] <;> rfl))), .inl rfl, .inl rfl, .inl rfl, trivial⟩, ⟨.inr rfl, .inr rfl, .inr rfl, .inr rfl, .inr rfl, .inr rfl, .inr rfl, .inr rfl, .inr rfl, .inr rfl, .inr rfl, trivial⟩⟩
            · first|omega|(dsimp only;omega)|(simp;omega)
            · first|trivial|omega|(dsimp only;omega)|(simp;omega)
      · have hk2 : sc.length ≤ k := by simpa [ints_len] using hc32
        rw [List.take_of_length_le hk2]
        refine G_exit ?_
        refine G_seq ?_
        refine G_region' (L:=[0,1]) rfl ?_
        refine xmv ?_
        refine xas ?_
        refine EOps_nil ?_
        refine G_ret ?_
        first
          | (rw [hX];exact⟨_,[3],rfl,rfl,rfl,rfl⟩)
          | (rw [hX];exact⟨_,[4],rfl,rfl,rfl,rfl⟩)
          | (rw [hX];exact⟨_,[5],rfl,rfl,rfl,rfl⟩)

end Go.Proofs.YthlhmpknngidmaaGreat.E
