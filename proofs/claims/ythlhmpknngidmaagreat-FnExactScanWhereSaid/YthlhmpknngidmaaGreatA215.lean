/- Walks through functions, by program out of the session's annotations. -/
import Derived.Test.YthlhmpknngidmaaGreatA214
namespace Go.Proofs.YthlhmpknngidmaaGreat.E
open Go Go.RowKit Go.Proofs
set_option linter.unusedVariables false
set_option linter.unusedSimpArgs false

theorem g_tidy_A215_0 {P:Program} {N n:Nat} {s:Slots} {R:List Res} {Q:Exit→Slots→List Res→Prop} {c:Code} (keep:List Nat) {base:Slots} {R':List Res} (h:GCode P N n c base R' Q) (hb:keepOf s keep=base:=by simp only [E.keepOf,E.get,E.ev,E.cv,E.fill',E.fill,E.slotsOf,Res.sh,AC.sh,AC.sh.shs,AV.sh,E.splice,List.map_cons,List.map_nil,List.cons_append,List.nil_append,List.append_nil,List.length_cons,List.length_nil,List.take_zero,List.drop_zero,List.take_succ_cons,List.drop_succ_cons,List.drop_nil,List.take_nil,List.set_cons_zero,List.set_cons_succ,Nat.zero_add,Nat.add_zero,Nat.reduceAdd,Nat.reduceSub,reduceIte,Nat.reduceEqDiff,E.back,E.backR,E.ix,Res.un,AC.un,AC.un.uns,AV.un,E.un,Option.map_some,Option.map_none,Option.getD_some,List.getElem?_cons_zero,List.getElem?_cons_succ,List.getElem?_nil,msR,msO];rfl) (hR:R=R':=by (try simp only [E.keepOf,E.get,E.ev,E.cv,E.fill',E.fill,E.slotsOf,Res.sh,AC.sh,AC.sh.shs,AV.sh,E.splice,List.map_cons,List.map_nil,List.cons_append,List.nil_append,List.append_nil,List.length_cons,List.length_nil,List.take_zero,List.drop_zero,List.take_succ_cons,List.drop_succ_cons,List.drop_nil,List.take_nil,List.set_cons_zero,List.set_cons_succ,Nat.zero_add,Nat.add_zero,Nat.reduceAdd,Nat.reduceSub,reduceIte,Nat.reduceEqDiff,E.back,E.backR,E.ix,Res.un,AC.un,AC.un.uns,AV.un,E.un,Option.map_some,Option.map_none,Option.getD_some,List.getElem?_cons_zero,List.getElem?_cons_succ,List.getElem?_nil,msR,msO]);rfl):GCode P N n c s R Q:=G_tidy keep hb hR h
theorem g_forD_A215_1 {P : Program} {N n : Nat} {s : Slots} {R : List Res} {Q : Exit → Slots → List Res → Prop} {α : Type} {c : Code} (keep : List Nat) (mods : α → Slots) (Rf : α → List Res) (I : α → Prop) (m : α → Nat) (x0 : α) {base : Slots} (h0 : I x0) (hR : R = Rf x0) (h1 : chk s (mods x0))
  (round:∀ x,I x→GCode P N n c (mods x++base) (Rf x) (EThen (fun s' R'=>∃ σ,okσ n R' σ=true ∧ ∃ y,m y<m x∧I y∧reR n σ R'=Rf y∧chk (renS n σ s') (mods y)∧chk (renS n σ s') base) Q)) (hb:keepOf s keep=base:=by simp only [E.keepOf,E.get,E.ev,E.cv,E.fill',E.fill,E.slotsOf,Res.sh,AC.sh,AC.sh.shs,AV.sh,E.splice,List.map_cons,List.map_nil,List.cons_append,List.nil_append,List.append_nil,List.length_cons,List.length_nil,List.take_zero,List.drop_zero,List.take_succ_cons,List.drop_succ_cons,List.drop_nil,List.take_nil,List.set_cons_zero,List.set_cons_succ,Nat.zero_add,Nat.add_zero,Nat.reduceAdd,Nat.reduceSub,reduceIte,Nat.reduceEqDiff,E.back,E.backR,E.ix,Res.un,AC.un,AC.un.uns,AV.un,E.un,Option.map_some,Option.map_none,Option.getD_some,List.getElem?_cons_zero,List.getElem?_cons_succ,List.getElem?_nil,msR,msO];rfl):GCode P N n (.loop c) s R Q:=G_forD keep mods Rf I m x0 hb h0 hR h1 round

set_option maxRecDepth 20000 in
set_option maxHeartbeats 8000000 in
theorem c_spec_ScanWhere (s : MSt) (r : Int × Int) (fs : List (Int × Int × Int)) (p : List Int) (hz : msZ s ≤ 1048576) (hf : fs.length ≤ 1048576) (hp : p.length ≤ 1048576) : EFn Tryz.prog 18 [.agg (msC s), .agg [.sc (.int .i64 r.1), .sc (.int .i64 r.2)], .c (.ro (trips fs)), .c (.ro (ints p))] [] (fun y S => y = .c (.sl 0 0 (swX s r fs p).length (swX s r fs p).length) ∧ S = [.row 22 1 (nest (swX s r fs p))]) := by
  refine E_fn Tryz.func18 rfl (Nat.le_of_ble_eq_true rfl) ?_
  refine E_G (n:=0) rfl ?_
  have hfl:=trips_len fs
  have hpl:=ints_len p
  have hnl:=nest_len s.tails
  have hhl:=(mst_le hz).1
  have hhi:=ints_len s.head
  refine G_seq ?_
  refine G_region' (L:=[0,1,2]) rfl ?_
  refine x_box rfl rfl rfl rfl rfl ?_
  refine x_box rfl rfl rfl rfl rfl ?_
  refine xas ?_
  refine EOps_nil ?_
  refine G_seq ?_
  refine G_region' (L:=[0,1]) rfl ?_
  refine EOps_go rfl rfl (Heavy.op (H_bslice rfl rfl (by decide) sl_23 ty_22 za_22 ⟨rfl,by decide⟩ (by decide) rfl rfl rfl rfl ?_))
  refine xas ?_
  refine EOps_nil ?_
  refine G_seq ?_
  refine G_seq ?_
  refine g_tidy_A215_0 [0,1,2,3,4,5,8,9] ?_
  refine G_region' (L:=[0,1,2,3,4,5,6,7,8,9]) rfl ?_
  refine x_light rfl rfl rfl (L_load rfl (xb0 ty_31)) ?_
  refine x_call rfl rfl rfl rfl rfl ca_43 (c_spec_IsMapSet s hz) ?_
  rintro r S ⟨rfl,rfl⟩
  refine x_pure rfl rfl rfl (L_not rfl rfl) ?_
  refine xmv ?_
  refine EOps_split 19 (b:=_) rfl (fun hg19=>?_) (fun hg19=>?_)
  · refine x_skip rfl rfl rfl ?_
    refine x_skip rfl rfl rfl ?_
    refine x_skip rfl rfl rfl ?_
    refine x_skip rfl rfl rfl ?_
    refine x_skip rfl rfl rfl ?_
    refine x_pure rfl rfl rfl (L_pick rfl rfl) ?_
    refine EOps_nil ?_
    refine G_cond rfl (fun hc25=>?_) (fun hc25=>?_)
    · have hX : swX s r fs p = [] := by
        rw [swX,if_neg]
        intro h
        simp only [Bool.and_eq_true] at h
        first
          | (simp [h.1] at hg19;done)
          | (simp [h.2] at hc25;done)
      refine G_seq ?_
      refine G_region' (L:=[0,1]) rfl ?_
      refine xmv ?_
      refine xas ?_
      refine EOps_nil ?_
      refine G_ret ?_
      first
        | (rw [hX];exact⟨_,[2],rfl,rfl,rfl,rfl⟩)
        | (rw [hX];exact⟨_,[3],rfl,rfl,rfl,rfl⟩)
    · exact Bool.noConfusion (hc25:true=false)
  · refine x_light rfl rfl rfl (L_load rfl (xb13 ty_31)) ?_
    refine xmv ?_
    refine xmv ?_
    refine x_call rfl rfl rfl rfl rfl ca_74 (c_spec_l14Fine s fs p hf hp hz) ?_
    rintro r S ⟨rfl,rfl⟩
    refine x_pure rfl rfl rfl (L_not rfl rfl) ?_
    refine x_pure rfl rfl rfl (L_pick rfl rfl) ?_
    refine EOps_nil ?_
    refine G_cond rfl (fun hc25=>?_) (fun hc25=>?_)
    · have hX : swX s r fs p = [] := by
        rw [swX,if_neg]
        intro h
        simp only [Bool.and_eq_true] at h
        first
          | (simp [h.1] at hg19;done)
          | (simp [h.2] at hc25;done)
      refine G_seq ?_
      refine G_region' (L:=[0,1]) rfl ?_
      refine xmv ?_
      refine xas ?_
      refine EOps_nil ?_
      refine G_ret ?_
      first
        | (rw [hX];exact⟨_,[2],rfl,rfl,rfl,rfl⟩)
        | (rw [hX];exact⟨_,[3],rfl,rfl,rfl,rfl⟩)
    · have h1 : isMS s = true := by simpa using hg19
      have h2:whK s fs p=true:=by simpa using hc25
      have hX:swX s r fs p=swL s fs p (scN s.head r s.head.length):=by rw [swX,if_pos (by simp [h1,h2])]
      obtain⟨w1,w2,w3⟩:=wh_parts h2
      refine G_skip ?_
      refine G_seq ?_
      refine G_seq ?_
      refine G_region' (L:=[0]) rfl ?_
      refine xas ?_
      refine EOps_nil ?_
      refine G_block ?_
      refine g_forD_A215_1 (α:=Nat) [0,1,2,3,4,5,8,25] (fun k=>[(10,.c (.sc (.int .i64 (k)))),(9,.c (.sl 2 0 (swL s fs p (scN s.head r k)).length (swL s fs p (scN s.head r k)).length)),(11,.any),(12,.any),(13,.any),(14,.any)]) (fun k=>[.box (msC s),.box [.sc (.int .i64 r.1),.sc (.int .i64 r.2)],.row 22 1 (nest (swL s fs p (scN s.head r k)))]) (fun k=>k≤s.head.length) (fun k=>s.head.length - k) (0) ?_ (rfl) ⟨.inr rfl,.inr rfl,.inl rfl,.inl rfl,.inl rfl,.inl rfl,trivial⟩ ?_
      · simp
      rintro k hk
      have hol:=swL_len s fs p (scN s.head r k)
      have hscl:=scN_len s.head r k
      have hnol:=nest_len (swL s fs p (scN s.head r k))
      refine G_seq ?_
      refine G_seq ?_
      refine G_region' (L:=[0,1,2,3,4]) rfl ?_
      refine xmv ?_
      refine x_pure rfl rfl rfl (l_field rfl fo_31_0) ?_
      refine x_light rfl rfl rfl (L_load rfl (xb0 ty_22)) ?_
      refine x_pure rfl rfl rfl (l_len rfl sl_22) ?_
      refine x_pure rfl rfl rfl (L_bin rfl rfl rfl rfl) ?_
      refine EOps_nil ?_
      refine G_cond rfl (fun hc31=>?_) (fun hc31=>?_)
      · have hc31' : k < (s.head).length := by simpa [ints_len, bools_len, pairs_len, quads_len, quints_len] using hc31
        obtain⟨x,hx⟩:∃ x,(s.head)[k]? = some x:=⟨_,List.getElem?_eq_getElem hc31'⟩
        have hst0:=scN_at (r:=r) hx
        have hst1:=swL_app s fs p (scN s.head r k) (k:Int)
        rw [Int.toNat_natCast] at hst1
        have hst2 : swL s fs p (scN s.head r (k + 1)) = if (inR r x && passB s fs k) = true then swL s fs p (scN s.head r k) ++ [tupT s p k] else swL s fs p (scN s.head r k) := by
          rw [hst0]
          cases h5:inR r x
          · simp
          · rw [if_pos rfl,hst1];simp
        clear hst0 hst1
        refine G_skip ?_
        refine G_seq ?_
        refine G_block ?_
        refine G_seq ?_
        refine g_tidy_A215_0 [0,1,2,3,4,5,8,9,10,11,12,13,14,25,31,44,69,74] ?_
        refine G_drawT mixed ?_
        refine t_light 0 rfl rfl rfl (L_load rfl (xb0 ty_43)) ?_
        refine t_old 1 rfl rfl rfl (l_field rfl fo_31_0) ?_
        refine t_light 2 rfl rfl rfl (L_load rfl (xb0 ty_22)) ?_
        refine t_old 3 rfl rfl rfl (L_move rfl) ?_
        refine t_old 4 rfl rfl rfl (L_index rfl rfl (by first|exact i_ro sl_22 ty_3|exact i_sl sl_22 ty_3)) ?_
        refine t_light 5 rfl rfl rfl (L_load rfl (xb0 ty_3)) ?_
        refine t_call 6 rfl rfl rfl rfl rfl ca_75 (c_spec_InRange r x) ?_
        rintro r S ⟨rfl,rfl⟩
        refine t_old 7 rfl rfl rfl (L_assign rfl) ?_
        refine T_done (by kernel_rfl) ?_
        refine G_seq ?_
        refine G_seq ?_
        refine G_region' (L:=[0]) rfl ?_
        refine xas ?_
        refine EOps_nil ?_
        refine G_block ?_
        refine g_forD_A215_1 (α:=Nat) [0,1,2,3,4,5,8,9,10,13,14,25,31,69,74] (fun j=>[(12,.c (.sc (.int .i64 (j)))),(11,.c (.sc (.bool (inR r x && (fs.take j).all fun f=>inR f.2 (cellT s f.1 k)))))]) (fun j=>[.box (msC s),.box [.sc (.int .i64 r.1),.sc (.int .i64 r.2)],.row 22 1 (nest (swL s fs p (scN s.head r k)))]) (fun j=>j≤fs.length) (fun j=>fs.length - j) (0) ?_ (rfl) ⟨.inr rfl,.inr ((by show AV.c (AC.sc (Value.bool (inR r x)))=_;simp)),trivial⟩ ?_
        · simp
        rintro j hj
        refine G_seq ?_
        refine G_seq ?_
        refine G_region' (L:=[0,1,2,3]) rfl ?_
        refine xmv ?_
        refine xmv ?_
        refine x_pure rfl rfl rfl (l_len rfl sl_45) ?_
        refine x_pure rfl rfl rfl (L_bin rfl rfl rfl rfl) ?_
        refine EOps_nil ?_
        refine G_cond rfl (fun hc44=>?_) (fun hc44=>?_)
        · have hj1 : j < fs.length := by simpa [trips_len] using hc44
          obtain⟨f,hfx⟩:=at_lt hj1
          have hnx:=trips_at hfx
          have hsf:=all_step (f:=fun f:Int × Int × Int=>inR f.2 (cellT s f.1 k)) hfx
          obtain⟨l,v,hl,hv,hcv,h0⟩:=cell_at h1 (okF_at w2 hfx) hc31'
          have hnlt:=nest_get hl
          have hnv:=ints_at hv
          have hll:=lt_of_atT hl
          have hvl:=lt_of_atT hv
          have hbt:(inR r x && (fs.take (j+1)).all fun f=>inR f.2 (cellT s f.1 k))=((inR r x && (fs.take j).all fun f=>inR f.2 (cellT s f.1 k)) && inR f.2 v):=by rw [hsf,hcv,Bool.and_assoc]
          refine G_skip ?_
          refine G_seq ?_
          refine G_block ?_
          refine g_tidy_A215_0 [0,1,2,3,4,5,8,9,10,11,12,13,14,25,31,44,69,74] ?_
          refine G_drawT mixed ?_
          refine t_old 0 rfl rfl rfl (L_move rfl) ?_
          refine t_old 1 rfl rfl rfl (L_move rfl) ?_
          refine T_split 48 (b:=_) rfl rfl (fun hg48=>?_) (fun hg48=>?_)
          · refine t_old 2 rfl rfl rfl (L_move rfl) ?_
            refine t_old 3 rfl rfl rfl (L_move rfl) ?_
            refine t_old 4 rfl rfl rfl (L_index rfl rfl (by first|exact i_ro sl_45 ty_104|exact i_sl sl_45 ty_104)) ?_
            refine t_old 5 rfl rfl rfl (l_field rfl fo_104_1) ?_
            refine t_light 6 rfl rfl rfl (L_load rfl (xb0 ty_43)) ?_
            refine t_old 7 rfl rfl rfl (l_field rfl fo_31_1) ?_
            refine t_light 8 rfl rfl rfl (L_load rfl (xb0 ty_23)) ?_
            refine t_old 9 rfl rfl rfl (L_move rfl) ?_
            refine t_old 10 rfl rfl rfl (L_move rfl) ?_
            refine t_old 11 rfl rfl rfl (L_index rfl rfl (by first|exact i_ro sl_45 ty_104|exact i_sl sl_45 ty_104)) ?_
            refine t_old 12 rfl rfl rfl (l_field rfl fo_104_0) ?_
            refine t_light 13 rfl rfl rfl (L_load rfl (xb0 ty_3)) ?_
            refine t_old 14 rfl rfl rfl (L_index rfl rfl (by first|exact i_ro sl_23 ty_22|exact i_sl sl_23 ty_22)) ?_
            refine t_light 15 rfl rfl rfl (L_load rfl (xb0 ty_22)) ?_
            refine t_old 16 rfl rfl rfl (L_move rfl) ?_
            refine t_old 17 rfl rfl rfl (L_index rfl rfl (by first|exact i_ro sl_22 ty_3|exact i_sl sl_22 ty_3)) ?_
            refine t_light 18 rfl rfl rfl (L_load rfl (xb0 ty_3)) ?_
            refine t_call 19 rfl rfl rfl rfl rfl ca_75 (c_spec_InRange f.2 v) ?_
            rintro r S ⟨rfl,rfl⟩
            refine t_old 20 rfl rfl rfl (L_pick rfl rfl) ?_
            refine t_old 21 rfl rfl rfl (L_assign rfl) ?_
            refine T_done (by kernel_rfl) ?_
            refine G_region' (L:=[0,1,2]) rfl ?_
            refine xmv ?_
            refine x_pure rfl rfl rfl xb2 ?_
            refine xas ?_
            refine EOps_nil ?_
            refine⟨[0,1,2],rfl,j+1,?_,?_,rfl,⟨.inr rfl,.inr ((by rw [hbt,hg48]<;>first|rfl|simp)),trivial⟩,⟨.inr rfl,.inr rfl,.inr rfl,.inr rfl,.inr rfl,.inr rfl,.inr rfl,.inr rfl,.inr rfl,.inr rfl,.inr rfl,.inr rfl,.inr rfl,.inr rfl,.inr rfl,trivial⟩⟩
            · first|omega|(dsimp only;omega)|(simp;omega)
            · first|trivial|omega|(dsimp only;omega)|(simp;omega)
          · refine t_skip 2 rfl rfl rfl ?_
            refine t_skip 3 rfl rfl rfl ?_
            refine t_skip 4 rfl rfl rfl ?_
            refine t_skip 5 rfl rfl rfl ?_
            refine t_skip 6 rfl rfl rfl ?_
            refine t_skip 7 rfl rfl rfl ?_
            refine t_skip 8 rfl rfl rfl ?_
            refine t_skip 9 rfl rfl rfl ?_
            refine t_skip 10 rfl rfl rfl ?_
            refine t_skip 11 rfl rfl rfl ?_
            refine t_skip 12 rfl rfl rfl ?_
            refine t_skip 13 rfl rfl rfl ?_
            refine t_skip 14 rfl rfl rfl ?_
            refine t_skip 15 rfl rfl rfl ?_
            refine t_skip 16 rfl rfl rfl ?_
            refine t_skip 17 rfl rfl rfl ?_
            refine t_skip 18 rfl rfl rfl ?_
            refine t_skip 19 rfl rfl rfl ?_
            refine t_old 20 rfl rfl rfl (L_pick rfl rfl) ?_
            refine t_old 21 rfl rfl rfl (L_assign rfl) ?_
            refine T_done (by kernel_rfl) ?_
            refine G_region' (L:=[0,1,2]) rfl ?_
            refine xmv ?_
            refine x_pure rfl rfl rfl xb2 ?_
            refine xas ?_
            refine EOps_nil ?_
            refine⟨[0,1,2],rfl,j+1,?_,?_,rfl,⟨.inr rfl,.inr ((by rw [hbt,hg48]<;>first|rfl|simp)),trivial⟩,⟨.inr rfl,.inr rfl,.inr rfl,.inr rfl,.inr rfl,.inr rfl,.inr rfl,.inr rfl,.inr rfl,.inr rfl,.inr rfl,.inr rfl,.inr rfl,.inr rfl,.inr rfl,trivial⟩⟩
            · first|omega|(dsimp only;omega)|(simp;omega)
            · first|trivial|omega|(dsimp only;omega)|(simp;omega)
        · have hj2 : fs.length ≤ j := by simpa [trips_len] using hc44
          rw [List.take_of_length_le hj2]
          refine G_exit ?_
          refine G_seq ?_
          refine G_seq ?_
          refine G_region' (L:=[0,1]) rfl ?_
          refine xmv ?_
          refine x_pure rfl rfl rfl (L_not rfl rfl) ?_
          refine EOps_nil ?_
          refine G_cond rfl (fun hc69=>?_) (fun hc69=>?_)
          · have hpb : (inR r x && passB s fs k) = false := by
              have h:=hc69
              rw [Bool.not_eq_true'] at h
              exact h
            have hst:swL s fs p (scN s.head r (k+1))=swL s fs p (scN s.head r k):=by rw [hst2,if_neg (by simp [hpb])]
            refine G_exit ?_
            first
              | refine (X_absorb 2 out.length 0 4 3 rfl (nest_at out w) rfl rfl rfl (ints_len _) (by decide) rfl).G fun _=>?_
              | skip
            refine G_region' (L:=[0,1,2]) rfl ?_
            refine xmv ?_
            refine x_pure rfl rfl rfl xb2 ?_
            refine xas ?_
            refine EOps_nil ?_
            refine⟨[0,1,2],rfl,k+1,?_,?_,by
  rw [hst]
  first
    | rfl
    | (rw [← nest_push out w (tupT s p k)]; rfl), ⟨.inr rfl, .inr ((by rw [hst] <;> first | rfl | (rw [show (out ++ [tupT s p k]).length = out.length + (vrow [w]).length by simp [vrow_len]] <;> rfl))), .inl rfl, .inl rfl, .inl rfl, .inl rfl, trivial⟩, ⟨.inr rfl, .inr rfl, .inr rfl, .inr rfl, .inr rfl, .inr rfl, .inr rfl, .inr rfl, trivial⟩⟩
            · first|omega|(dsimp only;omega)|(simp;omega)
            · first|trivial|omega|(dsimp only;omega)|(simp;omega)
          · have hpb : (inR r x && passB s fs k) = true := by simpa [passB] using hc69
            have hst:swL s fs p (scN s.head r (k+1))=swL s fs p (scN s.head r k)++[tupT s p k]:=by rw [hst2,if_pos hpb]
            generalize swL s fs p (scN s.head r k)=out at *
            refine G_skip ?_
            refine G_seq ?_
            refine G_region' (L:=[0,1]) rfl ?_
            refine EOps_go rfl rfl (Heavy.op (H_bslice rfl rfl (by decide) sl_22 ty_3 za_3 ⟨rfl,by decide⟩ (by decide) rfl rfl rfl rfl ?_))
            refine xas ?_
            refine EOps_nil ?_
            refine G_seq ?_
            refine G_seq ?_
            refine G_region' (L:=[0]) rfl ?_
            refine xas ?_
            refine EOps_nil ?_
            refine G_block ?_
            refine g_forD_A215_1 (α:=Nat) [0,1,2,3,4,5,8,9,10,11,12,25,31,44,69] (fun j3=>[(14,.c (.sc (.int .i64 (j3)))),(13,.c (.sl 3 0 (tupT s (p.take j3) k).length (tupT s (p.take j3) k).length))]) (fun j3=>[.box (msC s),.box [.sc (.int .i64 r.1),.sc (.int .i64 r.2)],.row 22 1 (nest out),.row 3 1 (ints (tupT s (p.take j3) k))]) (fun j3=>j3≤p.length) (fun j3=>p.length - j3) (0) ?_ (rfl) ⟨.inr rfl,.inr rfl,trivial⟩ ?_
            · simp
            rintro j3 hj3
            have htp:=tupT_len s (p.take j3) k
            have htj:(p.take j3).length≤p.length:=by rw [List.length_take];omega
            refine G_seq ?_
            refine G_seq ?_
            refine G_region' (L:=[0,1,2,3]) rfl ?_
            refine xmv ?_
            refine xmv ?_
            refine x_pure rfl rfl rfl (l_len rfl sl_22) ?_
            refine x_pure rfl rfl rfl (L_bin rfl rfl rfl rfl) ?_
            refine EOps_nil ?_
            refine G_cond rfl (fun hc74=>?_) (fun hc74=>?_)
            · have hc74' : j3 < (p).length := by simpa [ints_len, bools_len, pairs_len, quads_len, quints_len] using hc74
              obtain⟨t,ht⟩:∃ x,(p)[j3]? = some x:=⟨_,List.getElem?_eq_getElem hc74'⟩
              obtain⟨l,v,hl,hv,hcv,h0⟩:=cell_at h1 (w3 t (List.mem_of_getElem? ht)) hc31'
              have hnlt:=nest_get hl
              have hnv:=ints_at hv
              have hstj:=tupT_step (s:=s) (i:=k) ht
              rw [hcv] at hstj
              have hll:=lt_of_atT hl
              have hvl:=lt_of_atT hv
              refine G_skip ?_
              refine G_seq ?_
              refine G_block ?_
              refine G_drawT mixed ?_
              refine t_old 0 rfl rfl rfl (L_move rfl) ?_
              refine t_old 1 rfl rfl rfl (l_field rfl fo_31_1) ?_
              refine t_light 2 rfl rfl rfl (L_load rfl (xb0 ty_23)) ?_
              refine t_old 3 rfl rfl rfl (L_move rfl) ?_
              refine t_old 4 rfl rfl rfl (L_move rfl) ?_
              refine t_old 5 rfl rfl rfl (L_index rfl rfl (by first|exact i_ro sl_22 ty_3|exact i_sl sl_22 ty_3)) ?_
              refine t_light 6 rfl rfl rfl (L_load rfl (xb0 ty_3)) ?_
              refine t_old 7 rfl rfl rfl (L_index rfl rfl (by first|exact i_ro sl_23 ty_22|exact i_sl sl_23 ty_22)) ?_
              refine t_light 8 rfl rfl rfl (L_load rfl (xb0 ty_22)) ?_
              refine t_old 9 rfl rfl rfl (L_move rfl) ?_
              refine t_old 10 rfl rfl rfl (L_index rfl rfl (by first|exact i_ro sl_22 ty_3|exact i_sl sl_22 ty_3)) ?_
              refine t_light 11 rfl rfl rfl (L_load rfl (xb0 ty_3)) ?_
              refine t_turn 12 rfl rfl (Heavy.op (H_bslice_ro rfl rfl (by decide) sl_22 ty_3 za_3 ⟨rfl,by decide⟩ (by decide) rfl rfl rfl rfl ?_))
              refine t_turn 13 rfl rfl (EOp_append (news:=ints [v]) rfl rfl (by decide) sl_22 ty_3 by_3 za_3 ⟨rfl,by decide⟩ rfl (by first|rfl|assumption) xb6 xb7 xb8 xb9 ?_)
              refine t_old 14 rfl rfl rfl (L_assign rfl) ?_
              refine T_done (by kernel_rfl) ?_
              refine G_region' (L:=[0,1,2]) rfl ?_
              refine xmv ?_
              refine x_pure rfl rfl rfl xb2 ?_
              refine xas ?_
              refine EOps_nil ?_
              refine⟨[0,1,2,3],rfl,j3+1,?_,?_,(by rw [hstj]<;>first|rfl|(rw [← ints_app];rfl)),⟨.inr rfl,.inr ((by rw [hstj]<;>first|rfl|(rw [← ints_lenApp];rfl))),trivial⟩,⟨.inr rfl,.inr rfl,.inr rfl,.inr rfl,.inr rfl,.inr rfl,.inr rfl,.inr rfl,.inr rfl,.inr rfl,.inr rfl,.inr rfl,.inr rfl,.inr rfl,.inr rfl,trivial⟩⟩
              · first|omega|(dsimp only;omega)|(simp;omega)
              · first|trivial|omega|(dsimp only;omega)|(simp;omega)
            · have hj4 : p.length ≤ j3 := by simpa [ints_len] using hc74
              rw [List.take_of_length_le hj4]
              refine G_exit ?_
              refine G_region' (L:=[0,1,2,3,4]) rfl ?_
              refine xmv ?_
              refine xmv ?_
              refine (X_pin 92 rfl).X fun w=>?_
              refine EOps_go rfl rfl (Heavy.op (H_bslice_ro rfl rfl (by decide) sl_23 ty_22 za_22 ⟨rfl,by decide⟩ (by decide) rfl rfl rfl rfl ?_))
              refine EOps_go rfl rfl (EOp_append (news:=(vrow [w])) rfl rfl (by decide) sl_23 ty_22 by_22 za_22 ⟨rfl,by decide⟩ rfl (by first|rfl|assumption) xb6 xb7 (by exact vrow_row _) (by simp [vrow_len];omega) ?_)
              refine xas ?_
              refine EOps_nil ?_
              first
                | refine (X_absorb 2 out.length 0 4 3 rfl (nest_at out w) rfl rfl rfl (ints_len _) (by decide) rfl).G fun _=>?_
                | skip
              refine G_region' (L:=[0,1,2]) rfl ?_
              refine xmv ?_
              refine x_pure rfl rfl rfl xb2 ?_
              refine xas ?_
              refine EOps_nil ?_
              refine⟨[0,1,2],rfl,k+1,?_,?_,by
  rw [hst]
  first
    | rfl
    | (rw [← nest_push out w (tupT s p k)]; rfl), ⟨.inr rfl, .inr ((by rw [hst] <;> first | rfl | (rw [show (out ++ [tupT s p k]).length = out.length + (vrow [w]).length by simp [vrow_len]] <;> rfl))), .inl rfl, .inl rfl, .inl rfl, .inl rfl, trivial⟩, ⟨.inr rfl, .inr rfl, .inr rfl, .inr rfl, .inr rfl, .inr rfl, .inr rfl, .inr rfl, trivial⟩⟩
              · first|omega|(dsimp only;omega)|(simp;omega)
              · first|trivial|omega|(dsimp only;omega)|(simp;omega)
      · have hk2 : s.head.length ≤ k := by simpa [ints_len] using hc31
        obtain rfl:k=s.head.length:=by omega
        refine G_exit ?_
        refine G_seq ?_
        refine G_region' (L:=[0,1]) rfl ?_
        refine xmv ?_
        refine xas ?_
        refine EOps_nil ?_
        refine G_ret ?_
        first
          | (rw [hX];exact⟨_,[2],rfl,rfl,rfl,rfl⟩)
          | (rw [hX];exact⟨_,[3],rfl,rfl,rfl,rfl⟩)

end Go.Proofs.YthlhmpknngidmaaGreat.E
