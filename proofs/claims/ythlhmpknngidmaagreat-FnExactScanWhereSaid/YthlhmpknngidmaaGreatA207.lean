/- Walks through functions, by program out of the session's annotations. -/
import Derived.Test.YthlhmpknngidmaaGreatA203
import Derived.Test.YthlhmpknngidmaaGreatA59
import Derived.Test.YthlhmpknngidmaaGreatF4
namespace Go.Proofs.YthlhmpknngidmaaGreat.E
open Go Go.RowKit Go.Proofs
set_option linter.unusedVariables false
set_option linter.unusedSimpArgs false

theorem uptoT_get : ∀ {n q : Nat}, q < n → (upto n)[q]? = some (q : Int)
 | n + 1, q, h => by
  unfold upto
  rcases Nat.lt_or_ge q n with h'|h'
  ·rw [List.getElem?_append_left (by rw [upto_len];exact h')];exact uptoT_get h'
  ·have : q = n := by omega
   subst this
   rw [List.getElem?_append_right (by rw [upto_len];omega),upto_len];simp
theorem newCrkT_ok {xs : List Int} (h : areVals xs = true) : isCrk (newCrk xs) = true := by
 have hv:=areVals_parts h
 have hat : ∀ q, q < xs.length → (upto xs.length).getD q 0 = (q : Int) := fun q hq => by
  rw [List.getD_eq_getElem?_getD,uptoT_get hq];rfl
 rw [newCrk,if_pos h,crk_iff]
 refine⟨hv.1,fun q hq=>?_,?_,fun q hq=>?_,fun q r hq hr e=>?_,fun p hp=>?_,fun i j p q _ hp _=>?_⟩
 ·dsimp only at *
  rw [getD_at hq];exact hv.2 _ (List.getElem_mem hq)
 ·exact upto_len _
 ·dsimp only at *
  rw [hat q hq]
  have:=hv.1
  omega
 ·dsimp only at *
  rw [hat q hq,hat r hr] at e;omega
 ·simp at hp
 ·simp at hp
def mp0:Mp:=⟨⟨[],[],[]⟩,[],0⟩
theorem newMp_bd {xs ys : List Int} (hx : xs.length ≤ 1048576) (hy : ys.length ≤ 1048576) : (newMp xs ys).c.vals.length ≤ 1048576 ∧ (newMp xs ys).c.rows.length ≤ 1048576 ∧ (newMp xs ys).c.piv.length ≤ 1048576 ∧ (newMp xs ys).tail.length ≤ 1048576 := by
 unfold newMp
 split
 ·rename_i h
  rw [newCrk,if_pos h.1]
  simp [upto_len]
  omega
 ·simp
theorem newMp_new {xs ys : List Int} (hx : areVals xs = true) (hy : areVals ys = true) (h : xs.length = ys.length) : isMap (newMp xs ys) = true ∧ (newMp xs ys).app = 0 := by
 have e:newMp xs ys=⟨newCrk xs,ys,0⟩:=by rw [newMp,if_pos ⟨hx,hy,h⟩]
 have hn:(newCrk xs).vals.length=xs.length:=by rw [newCrk,if_pos hx]
 rw [e]
 exact⟨map_mk (newCrkT_ok hx) hy (by dsimp only;omega) (Int.le_refl _) (by show (0:Int)≤60;decide),rfl⟩
def wantM (s:MSt) (b:Bool) (x:List Int) (m:Mp):Mp:=if b=true then alM (newMp s.head x) (s.hist.take m.app.toNat) else mp0
/-- Tail, map and mark of the map at one place. -/
def okM (s:MSt) (b:Bool) (x:List Int) (m:Mp):Bool:=areVals x && decide (x.length=s.head.length) && (!b || (decide (0≤m.app) && decide (m.app≤s.hist.length))) && decide (m=wantM s b x m)
def okK (s:MSt) (k:Nat):Bool:=okM s (s.built.getD k false) (s.tails.getD k []) (s.maps.getD k mp0)
theorem okK_at {s : MSt} {k : Nat} {x : List Int} {m : Mp} {b : Bool} (hx : s.tails[k]? = some x) (hm : s.maps[k]? = some m) (hb : s.built[k]? = some b) : okK s k = okM s b x m := by
 unfold okK
 rw [List.getD_eq_getElem?_getD,List.getD_eq_getElem?_getD,List.getD_eq_getElem?_getD,hx,hm,hb]
 rfl
structure HdOk (s : MSt) : Prop where
 hd:areVals s.head=true
 n1:1≤s.tails.length∧s.tails.length≤4
 hi:isHist s.hist=true
 ml:s.maps.length=s.tails.length
 bl:s.built.length=s.tails.length
 ul:s.used.length=s.tails.length
 cl:0≤s.clock∧s.clock≤1000000
 bu:1≤s.budget∧s.budget≤4
instance (s:MSt):Decidable (HdOk s):=decidable_of_iff (areVals s.head=true∧(1≤s.tails.length∧s.tails.length≤4)∧isHist s.hist=true∧s.maps.length=s.tails.length∧s.built.length=s.tails.length∧s.used.length=s.tails.length∧(0≤s.clock∧s.clock≤1000000)∧(1≤s.budget∧s.budget≤4)) ⟨fun ⟨a,b,c,d,e,f,g,h⟩=>⟨a,b,c,d,e,f,g,h⟩,fun ⟨a,b,c,d,e,f,g,h⟩=>⟨a,b,c,d,e,f,g,h⟩⟩
def usIn (s:MSt):Bool:=s.used.all fun x=>isIn x 0 s.clock
def isMS (s:MSt):Bool:=decide (HdOk s) && usIn s && decide (((blt s.built).length:Int)≤s.budget) && (List.range s.tails.length).all (okK s)
structure MsOk (s : MSt) : Prop where
 hd:HdOk s
 us:usIn s=true
 bu:((blt s.built).length:Int)≤s.budget
 ok:∀ k,k<s.tails.length→okK s k=true
theorem ms_ok {s : MSt} (h : isMS s = true) : MsOk s := by
 simp only [isMS,Bool.and_eq_true,decide_eq_true_eq,List.all_eq_true,List.mem_range] at h
 exact⟨h.1.1.1,h.1.1.2,h.1.2,h.2⟩
theorem ms_mk {s : MSt} (h : MsOk s) : isMS s = true := by
 simp only [isMS,Bool.and_eq_true,decide_eq_true_eq,List.all_eq_true,List.mem_range]
 exact⟨⟨⟨h.hd,h.us⟩,h.bu⟩,h.ok⟩
theorem ms_no {s : MSt} (h : MsOk s → False) : isMS s = false := by
 cases hq:isMS s
 ·rfl
 ·exact (h (ms_ok hq)).elim
theorem us_at {s:MSt} {k:Nat} {u:Int} (h:usIn s=true) (hu:s.used[k]? = some u):isIn u 0 s.clock=true:=List.all_eq_true.1 h u (List.mem_of_getElem? hu)
theorem lt_of_atT {α : Type} {l : List α} {k : Nat} {x : α} (h : l[k]? = some x) : k < l.length := by
 rcases Nat.lt_or_ge k l.length with h'|h'
 ·exact h'
 ·rw [List.getElem?_eq_none h'] at h;cases h
theorem us_of {s : MSt} (h : ∀ (k : Nat) (u : Int), s.used[k]? = some u → isIn u 0 s.clock = true) : usIn s = true := by
 refine List.all_eq_true.2 fun u hu=>?_
 obtain⟨k,hk⟩:=List.getElem?_of_mem hu
 exact h k u hk

theorem g_tidy_A207_0 {P:Program} {N n:Nat} {s:Slots} {R:List Res} {Q:Exit→Slots→List Res→Prop} {c:Code} (keep:List Nat) {base:Slots} {R':List Res} (h:GCode P N n c base R' Q) (hb:keepOf s keep=base:=by simp only [E.keepOf,E.get,E.ev,E.cv,E.fill',E.fill,E.slotsOf,Res.sh,AC.sh,AC.sh.shs,AV.sh,E.splice,List.map_cons,List.map_nil,List.cons_append,List.nil_append,List.append_nil,List.length_cons,List.length_nil,List.take_zero,List.drop_zero,List.take_succ_cons,List.drop_succ_cons,List.drop_nil,List.take_nil,List.set_cons_zero,List.set_cons_succ,Nat.zero_add,Nat.add_zero,Nat.reduceAdd,Nat.reduceSub,reduceIte,Nat.reduceEqDiff,E.back,E.backR,E.ix,Res.un,AC.un,AC.un.uns,AV.un,E.un,Option.map_some,Option.map_none,Option.getD_some,List.getElem?_cons_zero,List.getElem?_cons_succ,List.getElem?_nil,msR,msO,mpO,mpR,crkO,crkR];rfl) (hR:R=R':=by (try simp only [E.keepOf,E.get,E.ev,E.cv,E.fill',E.fill,E.slotsOf,Res.sh,AC.sh,AC.sh.shs,AV.sh,E.splice,List.map_cons,List.map_nil,List.cons_append,List.nil_append,List.append_nil,List.length_cons,List.length_nil,List.take_zero,List.drop_zero,List.take_succ_cons,List.drop_succ_cons,List.drop_nil,List.take_nil,List.set_cons_zero,List.set_cons_succ,Nat.zero_add,Nat.add_zero,Nat.reduceAdd,Nat.reduceSub,reduceIte,Nat.reduceEqDiff,E.back,E.backR,E.ix,Res.un,AC.un,AC.un.uns,AV.un,E.un,Option.map_some,Option.map_none,Option.getD_some,List.getElem?_cons_zero,List.getElem?_cons_succ,List.getElem?_nil,msR,msO,mpO,mpR,crkO,crkR]);rfl):GCode P N n c s R Q:=G_tidy keep hb hR h
theorem g_forD_A207_1 {P : Program} {N n : Nat} {s : Slots} {R : List Res} {Q : Exit → Slots → List Res → Prop} {α : Type} {c : Code} (keep : List Nat) (mods : α → Slots) (Rf : α → List Res) (I : α → Prop) (m : α → Nat) (x0 : α) {base : Slots} (h0 : I x0) (hR : R = Rf x0) (h1 : chk s (mods x0))
  (round:∀ x,I x→GCode P N n c (mods x++base) (Rf x) (EThen (fun s' R'=>∃ σ,okσ n R' σ=true ∧ ∃ y,m y<m x∧I y∧reR n σ R'=Rf y∧chk (renS n σ s') (mods y)∧chk (renS n σ s') base) Q)) (hb:keepOf s keep=base:=by simp only [E.keepOf,E.get,E.ev,E.cv,E.fill',E.fill,E.slotsOf,Res.sh,AC.sh,AC.sh.shs,AV.sh,E.splice,List.map_cons,List.map_nil,List.cons_append,List.nil_append,List.append_nil,List.length_cons,List.length_nil,List.take_zero,List.drop_zero,List.take_succ_cons,List.drop_succ_cons,List.drop_nil,List.take_nil,List.set_cons_zero,List.set_cons_succ,Nat.zero_add,Nat.add_zero,Nat.reduceAdd,Nat.reduceSub,reduceIte,Nat.reduceEqDiff,E.back,E.backR,E.ix,Res.un,AC.un,AC.un.uns,AV.un,E.un,Option.map_some,Option.map_none,Option.getD_some,List.getElem?_cons_zero,List.getElem?_cons_succ,List.getElem?_nil,msR,msO,mpO,mpR,crkO,crkR];rfl):GCode P N n (.loop c) s R Q:=G_forD keep mods Rf I m x0 hb h0 hR h1 round
theorem e_tidy_A207_2 {P:Program} {N:Nat} {s:Slots} {R:List Res} {Q:Exit→Slots→List Res→Prop} {c:Code} (keep:List Nat) {base:Slots} {R':List Res} (h:ECode P N c base R' Q) (hb:keepOf s keep=base:=by simp only [E.keepOf,E.get,E.ev,E.cv,E.fill',E.fill,E.slotsOf,Res.sh,AC.sh,AC.sh.shs,AV.sh,E.splice,List.map_cons,List.map_nil,List.cons_append,List.nil_append,List.append_nil,List.length_cons,List.length_nil,List.take_zero,List.drop_zero,List.take_succ_cons,List.drop_succ_cons,List.drop_nil,List.take_nil,List.set_cons_zero,List.set_cons_succ,Nat.zero_add,Nat.add_zero,Nat.reduceAdd,Nat.reduceSub,reduceIte,Nat.reduceEqDiff,E.back,E.backR,E.ix,Res.un,AC.un,AC.un.uns,AV.un,E.un,Option.map_some,Option.map_none,Option.getD_some,List.getElem?_cons_zero,List.getElem?_cons_succ,List.getElem?_nil,msR,msO,mpO,mpR,crkO,crkR];rfl) (hR:R=R':=by (try simp only [E.keepOf,E.get,E.ev,E.cv,E.fill',E.fill,E.slotsOf,Res.sh,AC.sh,AC.sh.shs,AV.sh,E.splice,List.map_cons,List.map_nil,List.cons_append,List.nil_append,List.append_nil,List.length_cons,List.length_nil,List.take_zero,List.drop_zero,List.take_succ_cons,List.drop_succ_cons,List.drop_nil,List.take_nil,List.set_cons_zero,List.set_cons_succ,Nat.zero_add,Nat.add_zero,Nat.reduceAdd,Nat.reduceSub,reduceIte,Nat.reduceEqDiff,E.back,E.backR,E.ix,Res.un,AC.un,AC.un.uns,AV.un,E.un,Option.map_some,Option.map_none,Option.getD_some,List.getElem?_cons_zero,List.getElem?_cons_succ,List.getElem?_nil,msR,msO,mpO,mpR,crkO,crkR]);rfl):ECode P N c s R Q:=E_tidy keep hb hR h

set_option maxRecDepth 20000 in
set_option maxHeartbeats 16000000 in
theorem c_impl_IsMapSet (s : MSt) (hz : msZ s ≤ 1048576) : EFn Tryz.prog 40 [.agg (msC s)] [] (fun r S => r = .c (.sc (.bool (isMS s))) ∧ S = []) := by
  refine E_fn Tryz.func40 rfl (Nat.le_of_ble_eq_true rfl) ?_
  refine E_G (n:=0) rfl ?_
  have hnl:=nest_len s.tails
  have hml:=mps_len s.maps
  have hbl:=bools_len s.built
  have hul:=ints_len s.used
  unfold msZ at hz
  refine G_seq ?_
  refine G_region' (L:=[0,1]) rfl ?_
  refine x_box rfl rfl rfl rfl rfl ?_
  refine xas ?_
  refine EOps_nil ?_
  refine G_seq ?_
  refine G_region' (L:=[0,1,2,3]) rfl ?_
  refine x_pure rfl rfl rfl (l_field rfl fo_31_1) ?_
  refine x_light rfl rfl rfl (L_load rfl (xb0 ty_23)) ?_
  refine x_pure rfl rfl rfl (l_len rfl sl_23) ?_
  refine xas ?_
  refine EOps_nil ?_
  refine G_seq ?_
  refine G_seq ?_
  refine g_tidy_A207_0 [0,1,2,3] ?_
  refine G_drawT mixed ?_
  refine t_old 0 rfl rfl rfl (l_field rfl fo_31_0) ?_
  refine t_light 1 rfl rfl rfl (L_load rfl (xb0 ty_22)) ?_
  refine t_call 2 rfl rfl rfl rfl rfl ca_103 (c_impl_AreValues s.head) ?_
  rintro r S ⟨rfl,rfl⟩
  refine t_old 3 rfl rfl rfl (L_not rfl rfl) ?_
  refine t_old 4 rfl rfl rfl (L_move rfl) ?_
  refine T_split 15 (b:=_) rfl rfl (fun hg15=>?_) (fun hg15=>?_)
  · refine t_skip 5 rfl rfl rfl ?_
    refine t_skip 6 rfl rfl rfl ?_
    refine t_old 7 rfl rfl rfl (L_pick rfl rfl) ?_
    refine t_old 8 rfl rfl rfl (L_move rfl) ?_
    refine t_skip 9 rfl rfl rfl ?_
    refine t_skip 10 rfl rfl rfl ?_
    refine t_old 11 rfl rfl rfl (L_pick rfl rfl) ?_
    refine t_old 12 rfl rfl rfl (L_move rfl) ?_
    refine t_skip 13 rfl rfl rfl ?_
    refine t_skip 14 rfl rfl rfl ?_
    refine t_skip 15 rfl rfl rfl ?_
    refine t_skip 16 rfl rfl rfl ?_
    refine t_skip 17 rfl rfl rfl ?_
    refine t_old 18 rfl rfl rfl (L_pick rfl rfl) ?_
    refine t_old 19 rfl rfl rfl (L_move rfl) ?_
    refine t_skip 20 rfl rfl rfl ?_
    refine t_skip 21 rfl rfl rfl ?_
    refine t_skip 22 rfl rfl rfl ?_
    refine t_skip 23 rfl rfl rfl ?_
    refine t_skip 24 rfl rfl rfl ?_
    refine t_old 25 rfl rfl rfl (L_pick rfl rfl) ?_
    refine t_old 26 rfl rfl rfl (L_move rfl) ?_
    refine t_skip 27 rfl rfl rfl ?_
    refine t_skip 28 rfl rfl rfl ?_
    refine t_skip 29 rfl rfl rfl ?_
    refine t_skip 30 rfl rfl rfl ?_
    refine t_skip 31 rfl rfl rfl ?_
    refine t_old 32 rfl rfl rfl (L_pick rfl rfl) ?_
    refine t_old 33 rfl rfl rfl (L_move rfl) ?_
    refine t_skip 34 rfl rfl rfl ?_
    refine t_skip 35 rfl rfl rfl ?_
    refine t_skip 36 rfl rfl rfl ?_
    refine t_skip 37 rfl rfl rfl ?_
    refine t_old 38 rfl rfl rfl (L_pick rfl rfl) ?_
    refine t_old 39 rfl rfl rfl (L_move rfl) ?_
    refine t_skip 40 rfl rfl rfl ?_
    refine t_skip 41 rfl rfl rfl ?_
    refine t_skip 42 rfl rfl rfl ?_
    refine t_old 43 rfl rfl rfl (L_pick rfl rfl) ?_
    refine t_old 44 rfl rfl rfl (L_move rfl) ?_
    refine t_skip 45 rfl rfl rfl ?_
    refine t_skip 46 rfl rfl rfl ?_
    refine t_skip 47 rfl rfl rfl ?_
    refine t_old 48 rfl rfl rfl (L_pick rfl rfl) ?_
    refine t_old 49 rfl rfl rfl (L_move rfl) ?_
    refine t_skip 50 rfl rfl rfl ?_
    refine t_skip 51 rfl rfl rfl ?_
    refine t_skip 52 rfl rfl rfl ?_
    refine t_skip 53 rfl rfl rfl ?_
    refine t_skip 54 rfl rfl rfl ?_
    refine t_skip 55 rfl rfl rfl ?_
    refine t_old 56 rfl rfl rfl (L_pick rfl rfl) ?_
    refine t_old 57 rfl rfl rfl (L_move rfl) ?_
    refine t_skip 58 rfl rfl rfl ?_
    refine t_skip 59 rfl rfl rfl ?_
    refine t_skip 60 rfl rfl rfl ?_
    refine t_old 61 rfl rfl rfl (L_pick rfl rfl) ?_
    refine t_old 62 rfl rfl rfl (L_move rfl) ?_
    refine t_skip 63 rfl rfl rfl ?_
    refine t_skip 64 rfl rfl rfl ?_
    refine t_skip 65 rfl rfl rfl ?_
    refine t_old 66 rfl rfl rfl (L_pick rfl rfl) ?_
    refine t_old 67 rfl rfl rfl (L_move rfl) ?_
    refine t_skip 68 rfl rfl rfl ?_
    refine t_skip 69 rfl rfl rfl ?_
    refine t_skip 70 rfl rfl rfl ?_
    refine t_skip 71 rfl rfl rfl ?_
    refine t_skip 72 rfl rfl rfl ?_
    refine t_skip 73 rfl rfl rfl ?_
    refine t_old 74 rfl rfl rfl (L_pick rfl rfl) ?_
    refine T_done (by kernel_rfl) ?_
    refine G_cond rfl (fun hc85=>?_) (fun hc85=>?_)
    · have hf : isMS s = false := ms_no fun p => by
        have q:=p.hd
        have q1:=q.n1
        have q2:=q.cl
        have q3:=q.bu
        have q4:=p.bu
        have q5:=q.ml
        have q6:=q.bl
        have q7:=q.ul
        have q8:=p.us
        first
          | (simp [q.hd] at hg15;done)
          | (simp at hg19;omega)
          | (simp at hg23;omega)
          | (simp at hg30;omega)
          | (simp at hg37;omega)
          | (simp at hg44;omega)
          | (simp [q.hi] at hg50;done)
          | (simp at hg55;omega)
          | (simp at hg60;omega)
          | (unfold usIn isIn at q8;simp only [q8] at hg68;exact Bool.noConfusion hg68)
          | (simp at hg73;omega)
          | (simp at hg78;omega)
          | (simp at hc85;omega)
      refine G_seq ?_
      refine G_region' (L:=[0]) rfl ?_
      refine xas ?_
      refine EOps_nil ?_
      refine G_ret ?_
      refine⟨_,[],rfl,rfl,bool_eq ?_,rfl⟩
      first
        | rw [hf]
        | rw [ms_no fun p=>hno (p.ok k hk1)]
        | rw [ms_mk ⟨hd,hus,hbu,fun j hj=>hall j (by omega)⟩]
    · exact Bool.noConfusion (hc85:true=false)
  · refine t_old 5 rfl rfl rfl (L_move rfl) ?_
    refine t_old 6 rfl rfl rfl (L_bin rfl rfl rfl rfl) ?_
    refine t_old 7 rfl rfl rfl (L_pick rfl rfl) ?_
    refine t_old 8 rfl rfl rfl (L_move rfl) ?_
    refine T_split 19 (b:=_) rfl rfl (fun hg19=>?_) (fun hg19=>?_)
    · refine t_skip 9 rfl rfl rfl ?_
      refine t_skip 10 rfl rfl rfl ?_
      refine t_old 11 rfl rfl rfl (L_pick rfl rfl) ?_
      refine t_old 12 rfl rfl rfl (L_move rfl) ?_
      refine t_skip 13 rfl rfl rfl ?_
      refine t_skip 14 rfl rfl rfl ?_
      refine t_skip 15 rfl rfl rfl ?_
      refine t_skip 16 rfl rfl rfl ?_
      refine t_skip 17 rfl rfl rfl ?_
      refine t_old 18 rfl rfl rfl (L_pick rfl rfl) ?_
      refine t_old 19 rfl rfl rfl (L_move rfl) ?_
      refine t_skip 20 rfl rfl rfl ?_
      refine t_skip 21 rfl rfl rfl ?_
      refine t_skip 22 rfl rfl rfl ?_
      refine t_skip 23 rfl rfl rfl ?_
      refine t_skip 24 rfl rfl rfl ?_
      refine t_old 25 rfl rfl rfl (L_pick rfl rfl) ?_
      refine t_old 26 rfl rfl rfl (L_move rfl) ?_
      refine t_skip 27 rfl rfl rfl ?_
      refine t_skip 28 rfl rfl rfl ?_
      refine t_skip 29 rfl rfl rfl ?_
      refine t_skip 30 rfl rfl rfl ?_
      refine t_skip 31 rfl rfl rfl ?_
      refine t_old 32 rfl rfl rfl (L_pick rfl rfl) ?_
      refine t_old 33 rfl rfl rfl (L_move rfl) ?_
      refine t_skip 34 rfl rfl rfl ?_
      refine t_skip 35 rfl rfl rfl ?_
      refine t_skip 36 rfl rfl rfl ?_
      refine t_skip 37 rfl rfl rfl ?_
      refine t_old 38 rfl rfl rfl (L_pick rfl rfl) ?_
      refine t_old 39 rfl rfl rfl (L_move rfl) ?_
      refine t_skip 40 rfl rfl rfl ?_
      refine t_skip 41 rfl rfl rfl ?_
      refine t_skip 42 rfl rfl rfl ?_
      refine t_old 43 rfl rfl rfl (L_pick rfl rfl) ?_
      refine t_old 44 rfl rfl rfl (L_move rfl) ?_
      refine t_skip 45 rfl rfl rfl ?_
      refine t_skip 46 rfl rfl rfl ?_
      refine t_skip 47 rfl rfl rfl ?_
      refine t_old 48 rfl rfl rfl (L_pick rfl rfl) ?_
      refine t_old 49 rfl rfl rfl (L_move rfl) ?_
      refine t_skip 50 rfl rfl rfl ?_
      refine t_skip 51 rfl rfl rfl ?_
      refine t_skip 52 rfl rfl rfl ?_
      refine t_skip 53 rfl rfl rfl ?_
      refine t_skip 54 rfl rfl rfl ?_
      refine t_skip 55 rfl rfl rfl ?_
      refine t_old 56 rfl rfl rfl (L_pick rfl rfl) ?_
      refine t_old 57 rfl rfl rfl (L_move rfl) ?_
      refine t_skip 58 rfl rfl rfl ?_
      refine t_skip 59 rfl rfl rfl ?_
      refine t_skip 60 rfl rfl rfl ?_
      refine t_old 61 rfl rfl rfl (L_pick rfl rfl) ?_
      refine t_old 62 rfl rfl rfl (L_move rfl) ?_
      refine t_skip 63 rfl rfl rfl ?_
      refine t_skip 64 rfl rfl rfl ?_
      refine t_skip 65 rfl rfl rfl ?_
      refine t_old 66 rfl rfl rfl (L_pick rfl rfl) ?_
      refine t_old 67 rfl rfl rfl (L_move rfl) ?_
      refine t_skip 68 rfl rfl rfl ?_
      refine t_skip 69 rfl rfl rfl ?_
      refine t_skip 70 rfl rfl rfl ?_
      refine t_skip 71 rfl rfl rfl ?_
      refine t_skip 72 rfl rfl rfl ?_
      refine t_skip 73 rfl rfl rfl ?_
      refine t_old 74 rfl rfl rfl (L_pick rfl rfl) ?_
      refine T_done (by kernel_rfl) ?_
      refine G_cond rfl (fun hc85=>?_) (fun hc85=>?_)
      · have hf : isMS s = false := ms_no fun p => by
          have q:=p.hd
          have q1:=q.n1
          have q2:=q.cl
          have q3:=q.bu
          have q4:=p.bu
          have q5:=q.ml
          have q6:=q.bl
          have q7:=q.ul
          have q8:=p.us
          first
            | (simp [q.hd] at hg15;done)
            | (simp at hg19;omega)
            | (simp at hg23;omega)
            | (simp at hg30;omega)
            | (simp at hg37;omega)
            | (simp at hg44;omega)
            | (simp [q.hi] at hg50;done)
            | (simp at hg55;omega)
            | (simp at hg60;omega)
            | (unfold usIn isIn at q8;simp only [q8] at hg68;exact Bool.noConfusion hg68)
            | (simp at hg73;omega)
            | (simp at hg78;omega)
            | (simp at hc85;omega)
        refine G_seq ?_
        refine G_region' (L:=[0]) rfl ?_
        refine xas ?_
        refine EOps_nil ?_
        refine G_ret ?_
        refine⟨_,[],rfl,rfl,bool_eq ?_,rfl⟩
        first
          | rw [hf]
          | rw [ms_no fun p=>hno (p.ok k hk1)]
          | rw [ms_mk ⟨hd,hus,hbu,fun j hj=>hall j (by omega)⟩]
      · exact Bool.noConfusion (hc85:true=false)
    · refine t_old 9 rfl rfl rfl (L_move rfl) ?_
      refine t_old 10 rfl rfl rfl (L_bin rfl rfl rfl rfl) ?_
      refine t_old 11 rfl rfl rfl (L_pick rfl rfl) ?_
      refine t_old 12 rfl rfl rfl (L_move rfl) ?_
      refine T_split 23 (b:=_) rfl rfl (fun hg23=>?_) (fun hg23=>?_)
      · refine t_skip 13 rfl rfl rfl ?_
        refine t_skip 14 rfl rfl rfl ?_
        refine t_skip 15 rfl rfl rfl ?_
        refine t_skip 16 rfl rfl rfl ?_
        refine t_skip 17 rfl rfl rfl ?_
        refine t_old 18 rfl rfl rfl (L_pick rfl rfl) ?_
        refine t_old 19 rfl rfl rfl (L_move rfl) ?_
        refine t_skip 20 rfl rfl rfl ?_
        refine t_skip 21 rfl rfl rfl ?_
        refine t_skip 22 rfl rfl rfl ?_
        refine t_skip 23 rfl rfl rfl ?_
        refine t_skip 24 rfl rfl rfl ?_
        refine t_old 25 rfl rfl rfl (L_pick rfl rfl) ?_
        refine t_old 26 rfl rfl rfl (L_move rfl) ?_
        refine t_skip 27 rfl rfl rfl ?_
        refine t_skip 28 rfl rfl rfl ?_
        refine t_skip 29 rfl rfl rfl ?_
        refine t_skip 30 rfl rfl rfl ?_
        refine t_skip 31 rfl rfl rfl ?_
        refine t_old 32 rfl rfl rfl (L_pick rfl rfl) ?_
        refine t_old 33 rfl rfl rfl (L_move rfl) ?_
        refine t_skip 34 rfl rfl rfl ?_
        refine t_skip 35 rfl rfl rfl ?_
        refine t_skip 36 rfl rfl rfl ?_
        refine t_skip 37 rfl rfl rfl ?_
        refine t_old 38 rfl rfl rfl (L_pick rfl rfl) ?_
        refine t_old 39 rfl rfl rfl (L_move rfl) ?_
        refine t_skip 40 rfl rfl rfl ?_
        refine t_skip 41 rfl rfl rfl ?_
        refine t_skip 42 rfl rfl rfl ?_
        refine t_old 43 rfl rfl rfl (L_pick rfl rfl) ?_
        refine t_old 44 rfl rfl rfl (L_move rfl) ?_
        refine t_skip 45 rfl rfl rfl ?_
        refine t_skip 46 rfl rfl rfl ?_
        refine t_skip 47 rfl rfl rfl ?_
        refine t_old 48 rfl rfl rfl (L_pick rfl rfl) ?_
        refine t_old 49 rfl rfl rfl (L_move rfl) ?_
        refine t_skip 50 rfl rfl rfl ?_
        refine t_skip 51 rfl rfl rfl ?_
        refine t_skip 52 rfl rfl rfl ?_
        refine t_skip 53 rfl rfl rfl ?_
        refine t_skip 54 rfl rfl rfl ?_
        refine t_skip 55 rfl rfl rfl ?_
        refine t_old 56 rfl rfl rfl (L_pick rfl rfl) ?_
        refine t_old 57 rfl rfl rfl (L_move rfl) ?_
        refine t_skip 58 rfl rfl rfl ?_
        refine t_skip 59 rfl rfl rfl ?_
        refine t_skip 60 rfl rfl rfl ?_
        refine t_old 61 rfl rfl rfl (L_pick rfl rfl) ?_
        refine t_old 62 rfl rfl rfl (L_move rfl) ?_
        refine t_skip 63 rfl rfl rfl ?_
        refine t_skip 64 rfl rfl rfl ?_
        refine t_skip 65 rfl rfl rfl ?_
        refine t_old 66 rfl rfl rfl (L_pick rfl rfl) ?_
        refine t_old 67 rfl rfl rfl (L_move rfl) ?_
        refine t_skip 68 rfl rfl rfl ?_
        refine t_skip 69 rfl rfl rfl ?_
        refine t_skip 70 rfl rfl rfl ?_
        refine t_skip 71 rfl rfl rfl ?_
        refine t_skip 72 rfl rfl rfl ?_
        refine t_skip 73 rfl rfl rfl ?_
        refine t_old 74 rfl rfl rfl (L_pick rfl rfl) ?_
        refine T_done (by kernel_rfl) ?_
        refine G_cond rfl (fun hc85=>?_) (fun hc85=>?_)
        · have hf : isMS s = false := ms_no fun p => by
            have q:=p.hd
            have q1:=q.n1
            have q2:=q.cl
            have q3:=q.bu
            have q4:=p.bu
            have q5:=q.ml
            have q6:=q.bl
            have q7:=q.ul
            have q8:=p.us
            first
              | (simp [q.hd] at hg15;done)
              | (simp at hg19;omega)
              | (simp at hg23;omega)
              | (simp at hg30;omega)
              | (simp at hg37;omega)
              | (simp at hg44;omega)
              | (simp [q.hi] at hg50;done)
              | (simp at hg55;omega)
              | (simp at hg60;omega)
              | (unfold usIn isIn at q8;simp only [q8] at hg68;exact Bool.noConfusion hg68)
              | (simp at hg73;omega)
              | (simp at hg78;omega)
              | (simp at hc85;omega)
          refine G_seq ?_
          refine G_region' (L:=[0]) rfl ?_
          refine xas ?_
          refine EOps_nil ?_
          refine G_ret ?_
          refine⟨_,[],rfl,rfl,bool_eq ?_,rfl⟩
          first
            | rw [hf]
            | rw [ms_no fun p=>hno (p.ok k hk1)]
            | rw [ms_mk ⟨hd,hus,hbu,fun j hj=>hall j (by omega)⟩]
        · exact Bool.noConfusion (hc85:true=false)
      · refine t_old 13 rfl rfl rfl (l_field rfl fo_31_3) ?_
        refine t_light 14 rfl rfl rfl (L_load rfl (xb0 ty_29)) ?_
        refine t_old 15 rfl rfl rfl (l_len rfl sl_29) ?_
        refine t_old 16 rfl rfl rfl (L_move rfl) ?_
        refine t_old 17 rfl rfl rfl (L_bin rfl rfl rfl rfl) ?_
        refine t_old 18 rfl rfl rfl (L_pick rfl rfl) ?_
        refine t_old 19 rfl rfl rfl (L_move rfl) ?_
        refine T_split 30 (b:=_) rfl rfl (fun hg30=>?_) (fun hg30=>?_)
        · refine t_skip 20 rfl rfl rfl ?_
          refine t_skip 21 rfl rfl rfl ?_
          refine t_skip 22 rfl rfl rfl ?_
          refine t_skip 23 rfl rfl rfl ?_
          refine t_skip 24 rfl rfl rfl ?_
          refine t_old 25 rfl rfl rfl (L_pick rfl rfl) ?_
          refine t_old 26 rfl rfl rfl (L_move rfl) ?_
          refine t_skip 27 rfl rfl rfl ?_
          refine t_skip 28 rfl rfl rfl ?_
          refine t_skip 29 rfl rfl rfl ?_
          refine t_skip 30 rfl rfl rfl ?_
          refine t_skip 31 rfl rfl rfl ?_
          refine t_old 32 rfl rfl rfl (L_pick rfl rfl) ?_
          refine t_old 33 rfl rfl rfl (L_move rfl) ?_
          refine t_skip 34 rfl rfl rfl ?_
          refine t_skip 35 rfl rfl rfl ?_
          refine t_skip 36 rfl rfl rfl ?_
          refine t_skip 37 rfl rfl rfl ?_
          refine t_old 38 rfl rfl rfl (L_pick rfl rfl) ?_
          refine t_old 39 rfl rfl rfl (L_move rfl) ?_
          refine t_skip 40 rfl rfl rfl ?_
          refine t_skip 41 rfl rfl rfl ?_
          refine t_skip 42 rfl rfl rfl ?_
          refine t_old 43 rfl rfl rfl (L_pick rfl rfl) ?_
          refine t_old 44 rfl rfl rfl (L_move rfl) ?_
          refine t_skip 45 rfl rfl rfl ?_
          refine t_skip 46 rfl rfl rfl ?_
          refine t_skip 47 rfl rfl rfl ?_
          refine t_old 48 rfl rfl rfl (L_pick rfl rfl) ?_
          refine t_old 49 rfl rfl rfl (L_move rfl) ?_
          refine t_skip 50 rfl rfl rfl ?_
          refine t_skip 51 rfl rfl rfl ?_
          refine t_skip 52 rfl rfl rfl ?_
          refine t_skip 53 rfl rfl rfl ?_
          refine t_skip 54 rfl rfl rfl ?_
          refine t_skip 55 rfl rfl rfl ?_
          refine t_old 56 rfl rfl rfl (L_pick rfl rfl) ?_
          refine t_old 57 rfl rfl rfl (L_move rfl) ?_
          refine t_skip 58 rfl rfl rfl ?_
          refine t_skip 59 rfl rfl rfl ?_
          refine t_skip 60 rfl rfl rfl ?_
          refine t_old 61 rfl rfl rfl (L_pick rfl rfl) ?_
          refine t_old 62 rfl rfl rfl (L_move rfl) ?_
          refine t_skip 63 rfl rfl rfl ?_
          refine t_skip 64 rfl rfl rfl ?_
          refine t_skip 65 rfl rfl rfl ?_
          refine t_old 66 rfl rfl rfl (L_pick rfl rfl) ?_
          refine t_old 67 rfl rfl rfl (L_move rfl) ?_
          refine t_skip 68 rfl rfl rfl ?_
          refine t_skip 69 rfl rfl rfl ?_
          refine t_skip 70 rfl rfl rfl ?_
          refine t_skip 71 rfl rfl rfl ?_
          refine t_skip 72 rfl rfl rfl ?_
          refine t_skip 73 rfl rfl rfl ?_
          refine t_old 74 rfl rfl rfl (L_pick rfl rfl) ?_
          refine T_done (by kernel_rfl) ?_
          refine G_cond rfl (fun hc85=>?_) (fun hc85=>?_)
          · have hf : isMS s = false := ms_no fun p => by
              have q:=p.hd
              have q1:=q.n1
              have q2:=q.cl
              have q3:=q.bu
              have q4:=p.bu
              have q5:=q.ml
              have q6:=q.bl
              have q7:=q.ul
              have q8:=p.us
              first
                | (simp [q.hd] at hg15;done)
                | (simp at hg19;omega)
                | (simp at hg23;omega)
                | (simp at hg30;omega)
                | (simp at hg37;omega)
                | (simp at hg44;omega)
                | (simp [q.hi] at hg50;done)
                | (simp at hg55;omega)
                | (simp at hg60;omega)
                | (unfold usIn isIn at q8;simp only [q8] at hg68;exact Bool.noConfusion hg68)
                | (simp at hg73;omega)
                | (simp at hg78;omega)
                | (simp at hc85;omega)
            refine G_seq ?_
            refine G_region' (L:=[0]) rfl ?_
            refine xas ?_
            refine EOps_nil ?_
            refine G_ret ?_
            refine⟨_,[],rfl,rfl,bool_eq ?_,rfl⟩
            first
              | rw [hf]
              | rw [ms_no fun p=>hno (p.ok k hk1)]
              | rw [ms_mk ⟨hd,hus,hbu,fun j hj=>hall j (by omega)⟩]
          · exact Bool.noConfusion (hc85:true=false)
        · refine t_old 20 rfl rfl rfl (l_field rfl fo_31_4) ?_
          refine t_light 21 rfl rfl rfl (L_load rfl (xb0 ty_25)) ?_
          refine t_old 22 rfl rfl rfl (l_len rfl sl_25) ?_
          refine t_old 23 rfl rfl rfl (L_move rfl) ?_
          refine t_old 24 rfl rfl rfl (L_bin rfl rfl rfl rfl) ?_
          refine t_old 25 rfl rfl rfl (L_pick rfl rfl) ?_
          refine t_old 26 rfl rfl rfl (L_move rfl) ?_
          refine T_split 37 (b:=_) rfl rfl (fun hg37=>?_) (fun hg37=>?_)
          · refine t_skip 27 rfl rfl rfl ?_
            refine t_skip 28 rfl rfl rfl ?_
            refine t_skip 29 rfl rfl rfl ?_
            refine t_skip 30 rfl rfl rfl ?_
            refine t_skip 31 rfl rfl rfl ?_
            refine t_old 32 rfl rfl rfl (L_pick rfl rfl) ?_
            refine t_old 33 rfl rfl rfl (L_move rfl) ?_
            refine t_skip 34 rfl rfl rfl ?_
            refine t_skip 35 rfl rfl rfl ?_
            refine t_skip 36 rfl rfl rfl ?_
            refine t_skip 37 rfl rfl rfl ?_
            refine t_old 38 rfl rfl rfl (L_pick rfl rfl) ?_
            refine t_old 39 rfl rfl rfl (L_move rfl) ?_
            refine t_skip 40 rfl rfl rfl ?_
            refine t_skip 41 rfl rfl rfl ?_
            refine t_skip 42 rfl rfl rfl ?_
            refine t_old 43 rfl rfl rfl (L_pick rfl rfl) ?_
            refine t_old 44 rfl rfl rfl (L_move rfl) ?_
            refine t_skip 45 rfl rfl rfl ?_
            refine t_skip 46 rfl rfl rfl ?_
            refine t_skip 47 rfl rfl rfl ?_
            refine t_old 48 rfl rfl rfl (L_pick rfl rfl) ?_
            refine t_old 49 rfl rfl rfl (L_move rfl) ?_
            refine t_skip 50 rfl rfl rfl ?_
            refine t_skip 51 rfl rfl rfl ?_
            refine t_skip 52 rfl rfl rfl ?_
            refine t_skip 53 rfl rfl rfl ?_
            refine t_skip 54 rfl rfl rfl ?_
            refine t_skip 55 rfl rfl rfl ?_
            refine t_old 56 rfl rfl rfl (L_pick rfl rfl) ?_
            refine t_old 57 rfl rfl rfl (L_move rfl) ?_
            refine t_skip 58 rfl rfl rfl ?_
            refine t_skip 59 rfl rfl rfl ?_
            refine t_skip 60 rfl rfl rfl ?_
            refine t_old 61 rfl rfl rfl (L_pick rfl rfl) ?_
            refine t_old 62 rfl rfl rfl (L_move rfl) ?_
            refine t_skip 63 rfl rfl rfl ?_
            refine t_skip 64 rfl rfl rfl ?_
            refine t_skip 65 rfl rfl rfl ?_
            refine t_old 66 rfl rfl rfl (L_pick rfl rfl) ?_
            refine t_old 67 rfl rfl rfl (L_move rfl) ?_
            refine t_skip 68 rfl rfl rfl ?_
            refine t_skip 69 rfl rfl rfl ?_
            refine t_skip 70 rfl rfl rfl ?_
            refine t_skip 71 rfl rfl rfl ?_
            refine t_skip 72 rfl rfl rfl ?_
            refine t_skip 73 rfl rfl rfl ?_
            refine t_old 74 rfl rfl rfl (L_pick rfl rfl) ?_
            refine T_done (by kernel_rfl) ?_
            refine G_cond rfl (fun hc85=>?_) (fun hc85=>?_)
            · have hf : isMS s = false := ms_no fun p => by
                have q:=p.hd
                have q1:=q.n1
                have q2:=q.cl
                have q3:=q.bu
                have q4:=p.bu
                have q5:=q.ml
                have q6:=q.bl
                have q7:=q.ul
                have q8:=p.us
                first
                  | (simp [q.hd] at hg15;done)
                  | (simp at hg19;omega)
                  | (simp at hg23;omega)
                  | (simp at hg30;omega)
                  | (simp at hg37;omega)
                  | (simp at hg44;omega)
                  | (simp [q.hi] at hg50;done)
                  | (simp at hg55;omega)
                  | (simp at hg60;omega)
                  | (unfold usIn isIn at q8;simp only [q8] at hg68;exact Bool.noConfusion hg68)
                  | (simp at hg73;omega)
                  | (simp at hg78;omega)
                  | (simp at hc85;omega)
              refine G_seq ?_
              refine G_region' (L:=[0]) rfl ?_
              refine xas ?_
              refine EOps_nil ?_
              refine G_ret ?_
              refine⟨_,[],rfl,rfl,bool_eq ?_,rfl⟩
              first
                | rw [hf]
                | rw [ms_no fun p=>hno (p.ok k hk1)]
                | rw [ms_mk ⟨hd,hus,hbu,fun j hj=>hall j (by omega)⟩]
            · exact Bool.noConfusion (hc85:true=false)
          · refine t_old 27 rfl rfl rfl (l_field rfl fo_31_5) ?_
            refine t_light 28 rfl rfl rfl (L_load rfl (xb0 ty_22)) ?_
            refine t_old 29 rfl rfl rfl (l_len rfl sl_22) ?_
            refine t_old 30 rfl rfl rfl (L_move rfl) ?_
            refine t_old 31 rfl rfl rfl (L_bin rfl rfl rfl rfl) ?_
            refine t_old 32 rfl rfl rfl (L_pick rfl rfl) ?_
            refine t_old 33 rfl rfl rfl (L_move rfl) ?_
            refine T_split 44 (b:=_) rfl rfl (fun hg44=>?_) (fun hg44=>?_)
            · refine t_skip 34 rfl rfl rfl ?_
              refine t_skip 35 rfl rfl rfl ?_
              refine t_skip 36 rfl rfl rfl ?_
              refine t_skip 37 rfl rfl rfl ?_
              refine t_old 38 rfl rfl rfl (L_pick rfl rfl) ?_
              refine t_old 39 rfl rfl rfl (L_move rfl) ?_
              refine t_skip 40 rfl rfl rfl ?_
              refine t_skip 41 rfl rfl rfl ?_
              refine t_skip 42 rfl rfl rfl ?_
              refine t_old 43 rfl rfl rfl (L_pick rfl rfl) ?_
              refine t_old 44 rfl rfl rfl (L_move rfl) ?_
              refine t_skip 45 rfl rfl rfl ?_
              refine t_skip 46 rfl rfl rfl ?_
              refine t_skip 47 rfl rfl rfl ?_
              refine t_old 48 rfl rfl rfl (L_pick rfl rfl) ?_
              refine t_old 49 rfl rfl rfl (L_move rfl) ?_
              refine t_skip 50 rfl rfl rfl ?_
              refine t_skip 51 rfl rfl rfl ?_
              refine t_skip 52 rfl rfl rfl ?_
              refine t_skip 53 rfl rfl rfl ?_
              refine t_skip 54 rfl rfl rfl ?_
              refine t_skip 55 rfl rfl rfl ?_
              refine t_old 56 rfl rfl rfl (L_pick rfl rfl) ?_
              refine t_old 57 rfl rfl rfl (L_move rfl) ?_
              refine t_skip 58 rfl rfl rfl ?_
              refine t_skip 59 rfl rfl rfl ?_
              refine t_skip 60 rfl rfl rfl ?_
              refine t_old 61 rfl rfl rfl (L_pick rfl rfl) ?_
              refine t_old 62 rfl rfl rfl (L_move rfl) ?_
              refine t_skip 63 rfl rfl rfl ?_
              refine t_skip 64 rfl rfl rfl ?_
              refine t_skip 65 rfl rfl rfl ?_
              refine t_old 66 rfl rfl rfl (L_pick rfl rfl) ?_
              refine t_old 67 rfl rfl rfl (L_move rfl) ?_
              refine t_skip 68 rfl rfl rfl ?_
              refine t_skip 69 rfl rfl rfl ?_
              refine t_skip 70 rfl rfl rfl ?_
              refine t_skip 71 rfl rfl rfl ?_
              refine t_skip 72 rfl rfl rfl ?_
              refine t_skip 73 rfl rfl rfl ?_
              refine t_old 74 rfl rfl rfl (L_pick rfl rfl) ?_
              refine T_done (by kernel_rfl) ?_
              refine G_cond rfl (fun hc85=>?_) (fun hc85=>?_)
              · have hf : isMS s = false := ms_no fun p => by
                  have q:=p.hd
                  have q1:=q.n1
                  have q2:=q.cl
                  have q3:=q.bu
                  have q4:=p.bu
                  have q5:=q.ml
                  have q6:=q.bl
                  have q7:=q.ul
                  have q8:=p.us
                  first
                    | (simp [q.hd] at hg15;done)
                    | (simp at hg19;omega)
                    | (simp at hg23;omega)
                    | (simp at hg30;omega)
                    | (simp at hg37;omega)
                    | (simp at hg44;omega)
                    | (simp [q.hi] at hg50;done)
                    | (simp at hg55;omega)
                    | (simp at hg60;omega)
                    | (unfold usIn isIn at q8;simp only [q8] at hg68;exact Bool.noConfusion hg68)
                    | (simp at hg73;omega)
                    | (simp at hg78;omega)
                    | (simp at hc85;omega)
                refine G_seq ?_
                refine G_region' (L:=[0]) rfl ?_
                refine xas ?_
                refine EOps_nil ?_
                refine G_ret ?_
                refine⟨_,[],rfl,rfl,bool_eq ?_,rfl⟩
                first
                  | rw [hf]
                  | rw [ms_no fun p=>hno (p.ok k hk1)]
                  | rw [ms_mk ⟨hd,hus,hbu,fun j hj=>hall j (by omega)⟩]
              · exact Bool.noConfusion (hc85:true=false)
            · refine t_old 34 rfl rfl rfl (l_field rfl fo_31_2) ?_
              refine t_light 35 rfl rfl rfl (L_load rfl (xb0 ty_22)) ?_
              refine t_call 36 rfl rfl rfl rfl rfl ca_104 (c_impl_isHistory s.hist) ?_
              rintro r S ⟨rfl,rfl⟩
              refine t_old 37 rfl rfl rfl (L_not rfl rfl) ?_
              refine t_old 38 rfl rfl rfl (L_pick rfl rfl) ?_
              refine t_old 39 rfl rfl rfl (L_move rfl) ?_
              refine T_split 50 (b:=_) rfl rfl (fun hg50=>?_) (fun hg50=>?_)
              · refine t_skip 40 rfl rfl rfl ?_
                refine t_skip 41 rfl rfl rfl ?_
                refine t_skip 42 rfl rfl rfl ?_
                refine t_old 43 rfl rfl rfl (L_pick rfl rfl) ?_
                refine t_old 44 rfl rfl rfl (L_move rfl) ?_
                refine t_skip 45 rfl rfl rfl ?_
                refine t_skip 46 rfl rfl rfl ?_
                refine t_skip 47 rfl rfl rfl ?_
                refine t_old 48 rfl rfl rfl (L_pick rfl rfl) ?_
                refine t_old 49 rfl rfl rfl (L_move rfl) ?_
                refine t_skip 50 rfl rfl rfl ?_
                refine t_skip 51 rfl rfl rfl ?_
                refine t_skip 52 rfl rfl rfl ?_
                refine t_skip 53 rfl rfl rfl ?_
                refine t_skip 54 rfl rfl rfl ?_
                refine t_skip 55 rfl rfl rfl ?_
                refine t_old 56 rfl rfl rfl (L_pick rfl rfl) ?_
                refine t_old 57 rfl rfl rfl (L_move rfl) ?_
                refine t_skip 58 rfl rfl rfl ?_
                refine t_skip 59 rfl rfl rfl ?_
                refine t_skip 60 rfl rfl rfl ?_
                refine t_old 61 rfl rfl rfl (L_pick rfl rfl) ?_
                refine t_old 62 rfl rfl rfl (L_move rfl) ?_
                refine t_skip 63 rfl rfl rfl ?_
                refine t_skip 64 rfl rfl rfl ?_
                refine t_skip 65 rfl rfl rfl ?_
                refine t_old 66 rfl rfl rfl (L_pick rfl rfl) ?_
                refine t_old 67 rfl rfl rfl (L_move rfl) ?_
                refine t_skip 68 rfl rfl rfl ?_
                refine t_skip 69 rfl rfl rfl ?_
                refine t_skip 70 rfl rfl rfl ?_
                refine t_skip 71 rfl rfl rfl ?_
                refine t_skip 72 rfl rfl rfl ?_
                refine t_skip 73 rfl rfl rfl ?_
                refine t_old 74 rfl rfl rfl (L_pick rfl rfl) ?_
                refine T_done (by kernel_rfl) ?_
                refine G_cond rfl (fun hc85=>?_) (fun hc85=>?_)
                · have hf : isMS s = false := ms_no fun p => by
                    have q:=p.hd
                    have q1:=q.n1
                    have q2:=q.cl
                    have q3:=q.bu
                    have q4:=p.bu
                    have q5:=q.ml
                    have q6:=q.bl
                    have q7:=q.ul
                    have q8:=p.us
                    first
                      | (simp [q.hd] at hg15;done)
                      | (simp at hg19;omega)
                      | (simp at hg23;omega)
                      | (simp at hg30;omega)
                      | (simp at hg37;omega)
                      | (simp at hg44;omega)
                      | (simp [q.hi] at hg50;done)
                      | (simp at hg55;omega)
                      | (simp at hg60;omega)
                      | (unfold usIn isIn at q8;simp only [q8] at hg68;exact Bool.noConfusion hg68)
                      | (simp at hg73;omega)
                      | (simp at hg78;omega)
                      | (simp at hc85;omega)
                  refine G_seq ?_
                  refine G_region' (L:=[0]) rfl ?_
                  refine xas ?_
                  refine EOps_nil ?_
                  refine G_ret ?_
                  refine⟨_,[],rfl,rfl,bool_eq ?_,rfl⟩
                  first
                    | rw [hf]
                    | rw [ms_no fun p=>hno (p.ok k hk1)]
                    | rw [ms_mk ⟨hd,hus,hbu,fun j hj=>hall j (by omega)⟩]
                · exact Bool.noConfusion (hc85:true=false)
              · refine t_old 40 rfl rfl rfl (l_field rfl fo_31_6) ?_
                refine t_light 41 rfl rfl rfl (L_load rfl (xb0 ty_3)) ?_
                refine t_old 42 rfl rfl rfl (L_bin rfl rfl rfl rfl) ?_
                refine t_old 43 rfl rfl rfl (L_pick rfl rfl) ?_
                refine t_old 44 rfl rfl rfl (L_move rfl) ?_
                refine T_split 55 (b:=_) rfl rfl (fun hg55=>?_) (fun hg55=>?_)
                · refine t_skip 45 rfl rfl rfl ?_
                  refine t_skip 46 rfl rfl rfl ?_
                  refine t_skip 47 rfl rfl rfl ?_
                  refine t_old 48 rfl rfl rfl (L_pick rfl rfl) ?_
                  refine t_old 49 rfl rfl rfl (L_move rfl) ?_
                  refine t_skip 50 rfl rfl rfl ?_
                  refine t_skip 51 rfl rfl rfl ?_
                  refine t_skip 52 rfl rfl rfl ?_
                  refine t_skip 53 rfl rfl rfl ?_
                  refine t_skip 54 rfl rfl rfl ?_
                  refine t_skip 55 rfl rfl rfl ?_
                  refine t_old 56 rfl rfl rfl (L_pick rfl rfl) ?_
                  refine t_old 57 rfl rfl rfl (L_move rfl) ?_
                  refine t_skip 58 rfl rfl rfl ?_
                  refine t_skip 59 rfl rfl rfl ?_
                  refine t_skip 60 rfl rfl rfl ?_
                  refine t_old 61 rfl rfl rfl (L_pick rfl rfl) ?_
                  refine t_old 62 rfl rfl rfl (L_move rfl) ?_
                  refine t_skip 63 rfl rfl rfl ?_
                  refine t_skip 64 rfl rfl rfl ?_
                  refine t_skip 65 rfl rfl rfl ?_
                  refine t_old 66 rfl rfl rfl (L_pick rfl rfl) ?_
                  refine t_old 67 rfl rfl rfl (L_move rfl) ?_
                  refine t_skip 68 rfl rfl rfl ?_
                  refine t_skip 69 rfl rfl rfl ?_
                  refine t_skip 70 rfl rfl rfl ?_
                  refine t_skip 71 rfl rfl rfl ?_
                  refine t_skip 72 rfl rfl rfl ?_
                  refine t_skip 73 rfl rfl rfl ?_
                  refine t_old 74 rfl rfl rfl (L_pick rfl rfl) ?_
                  refine T_done (by kernel_rfl) ?_
                  refine G_cond rfl (fun hc85=>?_) (fun hc85=>?_)
                  · have hf : isMS s = false := ms_no fun p => by
                      have q:=p.hd
                      have q1:=q.n1
                      have q2:=q.cl
                      have q3:=q.bu
                      have q4:=p.bu
                      have q5:=q.ml
                      have q6:=q.bl
                      have q7:=q.ul
                      have q8:=p.us
                      first
                        | (simp [q.hd] at hg15;done)
                        | (simp at hg19;omega)
                        | (simp at hg23;omega)
                        | (simp at hg30;omega)
                        | (simp at hg37;omega)
                        | (simp at hg44;omega)
                        | (simp [q.hi] at hg50;done)
                        | (simp at hg55;omega)
                        | (simp at hg60;omega)
                        | (unfold usIn isIn at q8;simp only [q8] at hg68;exact Bool.noConfusion hg68)
                        | (simp at hg73;omega)
                        | (simp at hg78;omega)
                        | (simp at hc85;omega)
                    refine G_seq ?_
                    refine G_region' (L:=[0]) rfl ?_
                    refine xas ?_
                    refine EOps_nil ?_
                    refine G_ret ?_
                    refine⟨_,[],rfl,rfl,bool_eq ?_,rfl⟩
                    first
                      | rw [hf]
                      | rw [ms_no fun p=>hno (p.ok k hk1)]
                      | rw [ms_mk ⟨hd,hus,hbu,fun j hj=>hall j (by omega)⟩]
                  · exact Bool.noConfusion (hc85:true=false)
                · refine t_old 45 rfl rfl rfl (l_field rfl fo_31_6) ?_
                  refine t_light 46 rfl rfl rfl (L_load rfl (xb0 ty_3)) ?_
                  refine t_old 47 rfl rfl rfl (L_bin rfl rfl rfl rfl) ?_
                  refine t_old 48 rfl rfl rfl (L_pick rfl rfl) ?_
                  refine t_old 49 rfl rfl rfl (L_move rfl) ?_
                  refine T_split 60 (b:=_) rfl rfl (fun hg60=>?_) (fun hg60=>?_)
                  · refine t_skip 50 rfl rfl rfl ?_
                    refine t_skip 51 rfl rfl rfl ?_
                    refine t_skip 52 rfl rfl rfl ?_
                    refine t_skip 53 rfl rfl rfl ?_
                    refine t_skip 54 rfl rfl rfl ?_
                    refine t_skip 55 rfl rfl rfl ?_
                    refine t_old 56 rfl rfl rfl (L_pick rfl rfl) ?_
                    refine t_old 57 rfl rfl rfl (L_move rfl) ?_
                    refine t_skip 58 rfl rfl rfl ?_
                    refine t_skip 59 rfl rfl rfl ?_
                    refine t_skip 60 rfl rfl rfl ?_
                    refine t_old 61 rfl rfl rfl (L_pick rfl rfl) ?_
                    refine t_old 62 rfl rfl rfl (L_move rfl) ?_
                    refine t_skip 63 rfl rfl rfl ?_
                    refine t_skip 64 rfl rfl rfl ?_
                    refine t_skip 65 rfl rfl rfl ?_
                    refine t_old 66 rfl rfl rfl (L_pick rfl rfl) ?_
                    refine t_old 67 rfl rfl rfl (L_move rfl) ?_
                    refine t_skip 68 rfl rfl rfl ?_
                    refine t_skip 69 rfl rfl rfl ?_
                    refine t_skip 70 rfl rfl rfl ?_
                    refine t_skip 71 rfl rfl rfl ?_
                    refine t_skip 72 rfl rfl rfl ?_
                    refine t_skip 73 rfl rfl rfl ?_
                    refine t_old 74 rfl rfl rfl (L_pick rfl rfl) ?_
                    refine T_done (by kernel_rfl) ?_
                    refine G_cond rfl (fun hc85=>?_) (fun hc85=>?_)
                    · have hf : isMS s = false := ms_no fun p => by
                        have q:=p.hd
                        have q1:=q.n1
                        have q2:=q.cl
                        have q3:=q.bu
                        have q4:=p.bu
                        have q5:=q.ml
                        have q6:=q.bl
                        have q7:=q.ul
                        have q8:=p.us
                        first
                          | (simp [q.hd] at hg15;done)
                          | (simp at hg19;omega)
                          | (simp at hg23;omega)
                          | (simp at hg30;omega)
                          | (simp at hg37;omega)
                          | (simp at hg44;omega)
                          | (simp [q.hi] at hg50;done)
                          | (simp at hg55;omega)
                          | (simp at hg60;omega)
                          | (unfold usIn isIn at q8;simp only [q8] at hg68;exact Bool.noConfusion hg68)
                          | (simp at hg73;omega)
                          | (simp at hg78;omega)
                          | (simp at hc85;omega)
                      refine G_seq ?_
                      refine G_region' (L:=[0]) rfl ?_
                      refine xas ?_
                      refine EOps_nil ?_
                      refine G_ret ?_
                      refine⟨_,[],rfl,rfl,bool_eq ?_,rfl⟩
                      first
                        | rw [hf]
                        | rw [ms_no fun p=>hno (p.ok k hk1)]
                        | rw [ms_mk ⟨hd,hus,hbu,fun j hj=>hall j (by omega)⟩]
                    · exact Bool.noConfusion (hc85:true=false)
                  · refine t_old 50 rfl rfl rfl (l_field rfl fo_31_5) ?_
                    refine t_light 51 rfl rfl rfl (L_load rfl (xb0 ty_22)) ?_
                    refine t_old 52 rfl rfl rfl (l_field rfl fo_31_6) ?_
                    refine t_light 53 rfl rfl rfl (L_load rfl (xb0 ty_3)) ?_
                    refine t_call 54 rfl rfl rfl rfl rfl ca_105 (c_impl_within s.used 0 s.clock) ?_
                    rintro r S ⟨rfl,rfl⟩
                    refine t_old 55 rfl rfl rfl (L_not rfl rfl) ?_
                    refine t_old 56 rfl rfl rfl (L_pick rfl rfl) ?_
                    refine t_old 57 rfl rfl rfl (L_move rfl) ?_
                    refine T_split 68 (b:=_) rfl rfl (fun hg68=>?_) (fun hg68=>?_)
                    · refine t_skip 58 rfl rfl rfl ?_
                      refine t_skip 59 rfl rfl rfl ?_
                      refine t_skip 60 rfl rfl rfl ?_
                      refine t_old 61 rfl rfl rfl (L_pick rfl rfl) ?_
                      refine t_old 62 rfl rfl rfl (L_move rfl) ?_
                      refine t_skip 63 rfl rfl rfl ?_
                      refine t_skip 64 rfl rfl rfl ?_
                      refine t_skip 65 rfl rfl rfl ?_
                      refine t_old 66 rfl rfl rfl (L_pick rfl rfl) ?_
                      refine t_old 67 rfl rfl rfl (L_move rfl) ?_
                      refine t_skip 68 rfl rfl rfl ?_
                      refine t_skip 69 rfl rfl rfl ?_
                      refine t_skip 70 rfl rfl rfl ?_
                      refine t_skip 71 rfl rfl rfl ?_
                      refine t_skip 72 rfl rfl rfl ?_
                      refine t_skip 73 rfl rfl rfl ?_
                      refine t_old 74 rfl rfl rfl (L_pick rfl rfl) ?_
                      refine T_done (by kernel_rfl) ?_
                      refine G_cond rfl (fun hc85=>?_) (fun hc85=>?_)
                      · have hf : isMS s = false := ms_no fun p => by
                          have q:=p.hd
                          have q1:=q.n1
                          have q2:=q.cl
                          have q3:=q.bu
                          have q4:=p.bu
                          have q5:=q.ml
                          have q6:=q.bl
                          have q7:=q.ul
                          have q8:=p.us
                          first
                            | (simp [q.hd] at hg15;done)
                            | (simp at hg19;omega)
                            | (simp at hg23;omega)
                            | (simp at hg30;omega)
                            | (simp at hg37;omega)
                            | (simp at hg44;omega)
                            | (simp [q.hi] at hg50;done)
                            | (simp at hg55;omega)
                            | (simp at hg60;omega)
                            | (unfold usIn isIn at q8;simp only [q8] at hg68;exact Bool.noConfusion hg68)
                            | (simp at hg73;omega)
                            | (simp at hg78;omega)
                            | (simp at hc85;omega)
                        refine G_seq ?_
                        refine G_region' (L:=[0]) rfl ?_
                        refine xas ?_
                        refine EOps_nil ?_
                        refine G_ret ?_
                        refine⟨_,[],rfl,rfl,bool_eq ?_,rfl⟩
                        first
                          | rw [hf]
                          | rw [ms_no fun p=>hno (p.ok k hk1)]
                          | rw [ms_mk ⟨hd,hus,hbu,fun j hj=>hall j (by omega)⟩]
                      · exact Bool.noConfusion (hc85:true=false)
                    · refine t_old 58 rfl rfl rfl (l_field rfl fo_31_7) ?_
                      refine t_light 59 rfl rfl rfl (L_load rfl (xb0 ty_3)) ?_
                      refine t_old 60 rfl rfl rfl (L_bin rfl rfl rfl rfl) ?_
                      refine t_old 61 rfl rfl rfl (L_pick rfl rfl) ?_
                      refine t_old 62 rfl rfl rfl (L_move rfl) ?_
                      refine T_split 73 (b:=_) rfl rfl (fun hg73=>?_) (fun hg73=>?_)
                      · refine t_skip 63 rfl rfl rfl ?_
                        refine t_skip 64 rfl rfl rfl ?_
                        refine t_skip 65 rfl rfl rfl ?_
                        refine t_old 66 rfl rfl rfl (L_pick rfl rfl) ?_
                        refine t_old 67 rfl rfl rfl (L_move rfl) ?_
                        refine t_skip 68 rfl rfl rfl ?_
                        refine t_skip 69 rfl rfl rfl ?_
                        refine t_skip 70 rfl rfl rfl ?_
                        refine t_skip 71 rfl rfl rfl ?_
                        refine t_skip 72 rfl rfl rfl ?_
                        refine t_skip 73 rfl rfl rfl ?_
                        refine t_old 74 rfl rfl rfl (L_pick rfl rfl) ?_
                        refine T_done (by kernel_rfl) ?_
                        refine G_cond rfl (fun hc85=>?_) (fun hc85=>?_)
                        · have hf : isMS s = false := ms_no fun p => by
                            have q:=p.hd
                            have q1:=q.n1
                            have q2:=q.cl
                            have q3:=q.bu
                            have q4:=p.bu
                            have q5:=q.ml
                            have q6:=q.bl
                            have q7:=q.ul
                            have q8:=p.us
                            first
                              | (simp [q.hd] at hg15;done)
                              | (simp at hg19;omega)
                              | (simp at hg23;omega)
                              | (simp at hg30;omega)
                              | (simp at hg37;omega)
                              | (simp at hg44;omega)
                              | (simp [q.hi] at hg50;done)
                              | (simp at hg55;omega)
                              | (simp at hg60;omega)
                              | (unfold usIn isIn at q8;simp only [q8] at hg68;exact Bool.noConfusion hg68)
                              | (simp at hg73;omega)
                              | (simp at hg78;omega)
                              | (simp at hc85;omega)
                          refine G_seq ?_
                          refine G_region' (L:=[0]) rfl ?_
                          refine xas ?_
                          refine EOps_nil ?_
                          refine G_ret ?_
                          refine⟨_,[],rfl,rfl,bool_eq ?_,rfl⟩
                          first
                            | rw [hf]
                            | rw [ms_no fun p=>hno (p.ok k hk1)]
                            | rw [ms_mk ⟨hd,hus,hbu,fun j hj=>hall j (by omega)⟩]
                        · exact Bool.noConfusion (hc85:true=false)
                      · refine t_old 63 rfl rfl rfl (l_field rfl fo_31_7) ?_
                        refine t_light 64 rfl rfl rfl (L_load rfl (xb0 ty_3)) ?_
                        refine t_old 65 rfl rfl rfl (L_bin rfl rfl rfl rfl) ?_
                        refine t_old 66 rfl rfl rfl (L_pick rfl rfl) ?_
                        refine t_old 67 rfl rfl rfl (L_move rfl) ?_
                        refine T_split 78 (b:=_) rfl rfl (fun hg78=>?_) (fun hg78=>?_)
                        · refine t_skip 68 rfl rfl rfl ?_
                          refine t_skip 69 rfl rfl rfl ?_
                          refine t_skip 70 rfl rfl rfl ?_
                          refine t_skip 71 rfl rfl rfl ?_
                          refine t_skip 72 rfl rfl rfl ?_
                          refine t_skip 73 rfl rfl rfl ?_
                          refine t_old 74 rfl rfl rfl (L_pick rfl rfl) ?_
                          refine T_done (by kernel_rfl) ?_
                          refine G_cond rfl (fun hc85=>?_) (fun hc85=>?_)
                          · have hf : isMS s = false := ms_no fun p => by
                              have q:=p.hd
                              have q1:=q.n1
                              have q2:=q.cl
                              have q3:=q.bu
                              have q4:=p.bu
                              have q5:=q.ml
                              have q6:=q.bl
                              have q7:=q.ul
                              have q8:=p.us
                              first
                                | (simp [q.hd] at hg15;done)
                                | (simp at hg19;omega)
                                | (simp at hg23;omega)
                                | (simp at hg30;omega)
                                | (simp at hg37;omega)
                                | (simp at hg44;omega)
                                | (simp [q.hi] at hg50;done)
                                | (simp at hg55;omega)
                                | (simp at hg60;omega)
                                | (unfold usIn isIn at q8;simp only [q8] at hg68;exact Bool.noConfusion hg68)
                                | (simp at hg73;omega)
                                | (simp at hg78;omega)
                                | (simp at hc85;omega)
                            refine G_seq ?_
                            refine G_region' (L:=[0]) rfl ?_
                            refine xas ?_
                            refine EOps_nil ?_
                            refine G_ret ?_
                            refine⟨_,[],rfl,rfl,bool_eq ?_,rfl⟩
                            first
                              | rw [hf]
                              | rw [ms_no fun p=>hno (p.ok k hk1)]
                              | rw [ms_mk ⟨hd,hus,hbu,fun j hj=>hall j (by omega)⟩]
                          · exact Bool.noConfusion (hc85:true=false)
                        · refine t_light 68 rfl rfl rfl (L_load rfl (xb13 ty_31)) ?_
                          refine t_old 71 rfl rfl rfl (l_field rfl fo_31_7) ?_
                          refine t_light 72 rfl rfl rfl (L_load rfl (xb0 ty_3)) ?_
                          refine t_call 69 rfl rfl rfl rfl rfl ca_38 (c_impl_BuiltMaps s (by omega)) ?_
                          rintro r S ⟨rfl,rfl⟩
                          refine t_pure 70 rfl rfl rfl (l_len rfl sl_22) ?_
                          refine t_old 73 rfl rfl rfl (L_bin rfl rfl rfl rfl) ?_
                          refine t_old 74 rfl rfl rfl (L_pick rfl rfl) ?_
                          refine T_done (by kernel_rfl) ?_
                          refine G_cond rfl (fun hc85=>?_) (fun hc85=>?_)
                          · have hf : isMS s = false := ms_no fun p => by
                              have q:=p.hd
                              have q1:=q.n1
                              have q2:=q.cl
                              have q3:=q.bu
                              have q4:=p.bu
                              have q5:=q.ml
                              have q6:=q.bl
                              have q7:=q.ul
                              have q8:=p.us
                              first
                                | (simp [q.hd] at hg15;done)
                                | (simp at hg19;omega)
                                | (simp at hg23;omega)
                                | (simp at hg30;omega)
                                | (simp at hg37;omega)
                                | (simp at hg44;omega)
                                | (simp [q.hi] at hg50;done)
                                | (simp at hg55;omega)
                                | (simp at hg60;omega)
                                | (unfold usIn isIn at q8;simp only [q8] at hg68;exact Bool.noConfusion hg68)
                                | (simp at hg73;omega)
                                | (simp at hg78;omega)
                                | (simp at hc85;omega)
                            refine G_seq ?_
                            refine G_region' (L:=[0]) rfl ?_
                            refine xas ?_
                            refine EOps_nil ?_
                            refine G_ret ?_
                            refine⟨_,[],rfl,rfl,bool_eq ?_,rfl⟩
                            first
                              | rw [hf]
                              | rw [ms_no fun p=>hno (p.ok k hk1)]
                              | rw [ms_mk ⟨hd,hus,hbu,fun j hj=>hall j (by omega)⟩]
                          · have hd : HdOk s := ⟨by simpa using hg15, by simp at hg19 hg23; omega, by simpa using hg50, by simp at hg30; omega, by simp at hg37; omega, by simp at hg44; omega, by simp at hg55 hg60; omega, by simp at hg73 hg78; omega⟩
                            have hus:usIn s=true:=by unfold usIn isIn;simpa using hg68
                            have hbu:((blt s.built).length:Int)≤s.budget:=by simp at hc85;omega
                            have hxl:=areVals_parts hd.hd
                            refine G_skip ?_
                            refine G_seq ?_
                            refine G_seq ?_
                            refine G_region' (L:=[0,1,2,3]) rfl ?_
                            refine x_pure rfl rfl rfl (l_field rfl fo_31_1) ?_
                            refine x_light rfl rfl rfl (L_load rfl (xb0 ty_23)) ?_
                            refine x_pure rfl rfl rfl (l_len rfl sl_23) ?_
                            refine xmv ?_
                            refine EOps_nil ?_
                            refine G_block ?_
                            refine G_drop [0,1,2,87,88,89] [0] rfl rfl rfl ?_
                            refine g_forD_A207_1 (α:=Nat) [0,1,3,85,87,88] (fun k=>[(89,.c (.sc (.int .i64 (k)))),(4,.any),(5,.any),(6,.any),(7,.any)]) (fun k=>[.box (msC s)]) (fun k=>k≤s.tails.length ∧ ∀ j,j<k→okK s j=true) (fun k=>s.tails.length - k) (0) ?_ (rfl) ⟨.inr rfl,.inl rfl,.inl rfl,.inl rfl,.inl rfl,trivial⟩ ?_
                            · exact⟨Nat.zero_le _,fun j hj=>by omega⟩
                            rintro k ⟨hk,hall⟩
                            refine G_seq ?_
                            refine G_region' (L:=[0]) rfl ?_
                            refine x_pure rfl rfl rfl (L_bin rfl rfl rfl rfl) ?_
                            refine EOps_nil ?_
                            refine G_seq ?_
                            refine G_cond rfl (fun hc90=>?_) (fun hc90=>?_)
                            · have hk1 : k < s.tails.length := by simpa [nest_len] using hc90
                              have q5:=hd.ml
                              have q6:=hd.bl
                              obtain⟨x,hx⟩:=at_lt hk1
                              obtain⟨⟨mc,mt,ma⟩,hm⟩:=at_lt (l:=s.maps) (k:=k) (by omega)
                              obtain⟨b,hb⟩:=at_lt (l:=s.built) (k:=k) (by omega)
                              have hnx:=nest_get hx
                              have hmx:=mps_get hm
                              have hbx:=bools_at hb
                              have hok:=okK_at hx hm hb
                              refine G_skip ?_
                              refine G_seq ?_
                              refine G_block ?_
                              refine G_seq ?_
                              refine G_region' (L:=[0,1,2,3,4]) rfl ?_
                              refine xmv ?_
                              refine x_pure rfl rfl rfl (L_index rfl rfl (by first|exact i_ro sl_23 ty_22|exact i_sl sl_23 ty_22)) ?_
                              refine x_light rfl rfl rfl (L_load rfl (xb0 ty_22)) ?_
                              refine xas ?_
                              refine xas ?_
                              refine EOps_nil ?_
                              refine G_seq ?_
                              refine G_seq ?_
                              refine g_tidy_A207_0 [0,1,2,3,4,5,6,7,85,87,88,89,90,104,115,126,140] ?_
                              refine G_region' (L:=[0,1,2,3,4,5,6,7,8,9,10]) rfl ?_
                              refine xmv ?_
                              refine x_call rfl rfl rfl rfl rfl ca_103 (c_impl_AreValues x) ?_
                              rintro r S ⟨rfl,rfl⟩
                              refine x_pure rfl rfl rfl (L_not rfl rfl) ?_
                              refine xmv ?_
                              refine EOps_split 97 (b:=_) rfl (fun hg97=>?_) (fun hg97=>?_)
                              · refine x_skip rfl rfl rfl ?_
                                refine x_skip rfl rfl rfl ?_
                                refine x_skip rfl rfl rfl ?_
                                refine x_skip rfl rfl rfl ?_
                                refine x_skip rfl rfl rfl ?_
                                refine x_skip rfl rfl rfl ?_
                                refine x_pure rfl rfl rfl (L_pick rfl rfl) ?_
                                refine EOps_nil ?_
                                refine G_cond rfl (fun hc104=>?_) (fun hc104=>?_)
                                · have hno : ¬ okK s k = true := fun e => by
                                    rw [hok] at e
                                    simp only [okM,Bool.and_eq_true,decide_eq_true_eq] at e
                                    first
                                      | (simp [e.1.1.1] at hg97;done)
                                      | (simp [ints_len] at hc104;omega)
                                  refine G_seq ?_
                                  refine G_region' (L:=[0]) rfl ?_
                                  refine xas ?_
                                  refine EOps_nil ?_
                                  refine G_ret ?_
                                  refine⟨_,[],rfl,rfl,bool_eq ?_,rfl⟩
                                  first
                                    | rw [hf]
                                    | rw [ms_no fun p=>hno (p.ok k hk1)]
                                    | rw [ms_mk ⟨hd,hus,hbu,fun j hj=>hall j (by omega)⟩]
                                · exact Bool.noConfusion (hc104:true=false)
                              · refine xmv ?_
                                refine x_pure rfl rfl rfl (l_len rfl sl_22) ?_
                                refine x_pure rfl rfl rfl (l_field rfl fo_31_0) ?_
                                refine x_light rfl rfl rfl (L_load rfl (xb0 ty_22)) ?_
                                refine x_pure rfl rfl rfl (l_len rfl sl_22) ?_
                                refine x_pure rfl rfl rfl (L_bin rfl rfl rfl rfl) ?_
                                refine x_pure rfl rfl rfl (L_pick rfl rfl) ?_
                                refine EOps_nil ?_
                                refine G_cond rfl (fun hc104=>?_) (fun hc104=>?_)
                                · have hno : ¬ okK s k = true := fun e => by
                                    rw [hok] at e
                                    simp only [okM,Bool.and_eq_true,decide_eq_true_eq] at e
                                    first
                                      | (simp [e.1.1.1] at hg97;done)
                                      | (simp [ints_len] at hc104;omega)
                                  refine G_seq ?_
                                  refine G_region' (L:=[0]) rfl ?_
                                  refine xas ?_
                                  refine EOps_nil ?_
                                  refine G_ret ?_
                                  refine⟨_,[],rfl,rfl,bool_eq ?_,rfl⟩
                                  first
                                    | rw [hf]
                                    | rw [ms_no fun p=>hno (p.ok k hk1)]
                                    | rw [ms_mk ⟨hd,hus,hbu,fun j hj=>hall j (by omega)⟩]
                                · have hxv : areVals x = true := by simpa using hg97
                                  have hxl2:x.length=s.head.length:=by simp [ints_len] at hc104;omega
                                  refine G_skip ?_
                                  refine G_seq ?_
                                  refine G_region' (L:=[0,1,2,3,4,5,6,7,8,9]) rfl ?_
                                  refine x_pure rfl rfl rfl (L_build rfl bd_72 rfl rfl) ?_
                                  refine x_pure rfl rfl rfl (l_field rfl fo_31_3) ?_
                                  refine x_light rfl rfl rfl (L_load rfl (xb0 ty_29)) ?_
                                  refine xmv ?_
                                  refine x_pure rfl rfl rfl (L_index rfl rfl (by first|exact i_ro sl_29 ty_72|exact i_sl sl_29 ty_72)) ?_
                                  refine x_light rfl rfl rfl (L_load rfl (xb0 ty_72)) ?_
                                  refine x_alloc rfl rfl rfl rfl za_72 ?_
                                  refine x_alloc rfl rfl rfl rfl za_72 ?_
                                  refine EOps_go rfl rfl (EOp_store rfl rfl rfl (xb1 ty_72) ?_)
                                  refine EOps_go rfl rfl (EOp_store rfl rfl rfl (xb1 ty_72) ?_)
                                  refine EOps_nil ?_
                                  refine G_seq ?_
                                  refine G_seq ?_
                                  refine G_region' (L:=[0,1,2,3,4]) rfl ?_
                                  refine x_pure rfl rfl rfl (l_field rfl fo_31_4) ?_
                                  refine x_light rfl rfl rfl (L_load rfl (xb0 ty_25)) ?_
                                  refine xmv ?_
                                  refine x_pure rfl rfl rfl (L_index rfl rfl (by first|exact i_ro sl_25 ty_4|exact i_sl sl_25 ty_4)) ?_
                                  refine x_light rfl rfl rfl (L_load rfl (xb0 ty_4)) ?_
                                  refine EOps_nil ?_
                                  refine G_cond rfl (fun hc115=>?_) (fun hc115=>?_)
                                  · have hb1 : b = true := by simpa using hc115
                                    subst hb1
                                    refine G_seq ?_
                                    refine G_seq ?_
                                    refine G_region' (L:=[0,1,2,3,4,5,6,7,8,9,10]) rfl ?_
                                    refine x_pure rfl rfl rfl (l_field rfl fo_72_2) ?_
                                    refine x_light rfl rfl rfl (L_load rfl (xb0 ty_3)) ?_
                                    refine x_pure rfl rfl rfl (L_bin rfl rfl rfl rfl) ?_
                                    refine xmv ?_
                                    refine EOps_split 119 (b:=_) rfl (fun hg119=>?_) (fun hg119=>?_)
                                    · refine x_skip rfl rfl rfl ?_
                                      refine x_skip rfl rfl rfl ?_
                                      refine x_skip rfl rfl rfl ?_
                                      refine x_skip rfl rfl rfl ?_
                                      refine x_skip rfl rfl rfl ?_
                                      refine x_skip rfl rfl rfl ?_
                                      refine x_pure rfl rfl rfl (L_pick rfl rfl) ?_
                                      refine EOps_nil ?_
                                      refine G_cond rfl (fun hc126=>?_) (fun hc126=>?_)
                                      · have hno : ¬ okK s k = true := fun e => by
                                          rw [hok] at e
                                          simp only [okM,Bool.and_eq_true,Bool.or_eq_true,decide_eq_true_eq] at e
                                          first
                                            | (simp at hg119 e;omega)
                                            | (simp [ints_len] at hc126 e;omega)
                                        refine G_seq ?_
                                        refine G_region' (L:=[0]) rfl ?_
                                        refine xas ?_
                                        refine EOps_nil ?_
                                        refine G_ret ?_
                                        refine⟨_,[],rfl,rfl,bool_eq ?_,rfl⟩
                                        first
                                          | rw [hf]
                                          | rw [ms_no fun p=>hno (p.ok k hk1)]
                                          | rw [ms_mk ⟨hd,hus,hbu,fun j hj=>hall j (by omega)⟩]
                                      · exact Bool.noConfusion (hc126:true=false)
                                    · refine x_pure rfl rfl rfl (l_field rfl fo_72_2) ?_
                                      refine x_light rfl rfl rfl (L_load rfl (xb0 ty_3)) ?_
                                      refine x_pure rfl rfl rfl (l_field rfl fo_31_2) ?_
                                      refine x_light rfl rfl rfl (L_load rfl (xb0 ty_22)) ?_
                                      refine x_pure rfl rfl rfl (l_len rfl sl_22) ?_
                                      refine x_pure rfl rfl rfl (L_bin rfl rfl rfl rfl) ?_
                                      refine x_pure rfl rfl rfl (L_pick rfl rfl) ?_
                                      refine EOps_nil ?_
                                      refine G_cond rfl (fun hc126=>?_) (fun hc126=>?_)
                                      · have hno : ¬ okK s k = true := fun e => by
                                          rw [hok] at e
                                          simp only [okM,Bool.and_eq_true,Bool.or_eq_true,decide_eq_true_eq] at e
                                          first
                                            | (simp at hg119 e;omega)
                                            | (simp [ints_len] at hc126 e;omega)
                                        refine G_seq ?_
                                        refine G_region' (L:=[0]) rfl ?_
                                        refine xas ?_
                                        refine EOps_nil ?_
                                        refine G_ret ?_
                                        refine⟨_,[],rfl,rfl,bool_eq ?_,rfl⟩
                                        first
                                          | rw [hf]
                                          | rw [ms_no fun p=>hno (p.ok k hk1)]
                                          | rw [ms_mk ⟨hd,hus,hbu,fun j hj=>hall j (by omega)⟩]
                                      · have ha0 : 0 ≤ ma ∧ ma ≤ s.hist.length := by simp at hg119; simp [ints_len] at hc126; omega
                                        obtain⟨na,rfl⟩:∃ na:Nat,ma=na:=⟨ma.toNat,by omega⟩
                                        have hnew:=newMp_new hd.hd hxv hxl2.symm
                                        have hnb:=newMp_bd (xs:=s.head) (ys:=x) (by omega) (by omega)
                                        have hhp:=hist_parts hd.hi
                                        have hth : isHist (s.hist.take na) = true := by
                                          simp only [isHist,Bool.and_eq_true,decide_eq_true_eq,List.all_eq_true]
                                          exact⟨by rw [List.length_take];omega,fun v hv=>hhp.2 v (List.mem_of_mem_take hv)⟩
                                        have htl:(s.hist.take na).length=na:=by rw [List.length_take];omega
                                        have hal : alM (newMp s.head x) (s.hist.take na) = alGo ((s.hist.take na).drop (newMp s.head x).app.toNat) (newMp s.head x) := by
                                          rw [alM,if_pos (by simp [alK,hnew.1,hth,hnew.2])]
                                        have hwt:wantM s true x ⟨mc,mt,(na:Int)⟩=alM (newMp s.head x) (s.hist.take na):=by rw [wantM,if_pos rfl];rfl
                                        refine G_skip ?_
                                        refine G_seq ?_
                                        refine g_tidy_A207_0 [0,1,2,3,4,5,6,7,85,87,88,89,90,104,115,126,140] ?_
                                        refine G_region' (L:=[0,1,2,3,4]) rfl ?_
                                        refine x_pure rfl rfl rfl (l_field rfl fo_31_0) ?_
                                        refine x_light rfl rfl rfl (L_load rfl (xb0 ty_22)) ?_
                                        refine xmv ?_
                                        refine x_call rfl rfl rfl rfl rfl ca_106 (c_impl_NewMap s.head x (by omega)) ?_
                                        rintro r S ⟨rfl,rfl⟩
                                        refine EOps_go rfl rfl (EOp_store rfl rfl rfl (xb1 ty_72) ?_)
                                        refine EOps_nil ?_
                                        refine g_tidy_A207_0 [0,1,2,3,4,5,6,7,85,87,88,89,90,104,115,126,140] ?_
                                        refine G_region' (L:=[0,1,2,3,4,5]) rfl ?_
                                        refine x_pure rfl rfl rfl (l_field rfl fo_31_2) ?_
                                        refine x_light rfl rfl rfl (L_load rfl (xb0 ty_22)) ?_
                                        refine x_pure rfl rfl rfl (l_field rfl fo_72_2) ?_
                                        refine x_light rfl rfl rfl (L_load rfl (xb0 ty_3)) ?_
                                        refine x_pure rfl rfl rfl (Pure.as (by first|exact L_slice_ro (l:=0) (h:=na) rfl sl_22 ty_3 rfl rfl rfl (by first|omega|(simp [ints_len,pairs_len,quads_len,quints_len,bools_len];omega)|(simp [ints_len,pairs_len,quads_len,quints_len,bools_len] at *;omega)) (by first|omega|(simp [ints_len,pairs_len,quads_len,quints_len,bools_len];omega)|(simp [ints_len,pairs_len,quads_len,quints_len,bools_len] at *;omega)) (by first|exact fun r hr=>(ints_row _ r hr).1|exact fun r hr=>(pairs_row _ r hr).1|exact fun r hr=>(quads_row _ r hr).1|exact fun r hr=>(quints_row _ r hr).1|exact fun r hr=>(bools_row _ r hr).1)|exact L_slice_sl (l:=0) (h:=na) rfl sl_22 ty_3 rfl (by first|rfl|assumption) (by first|assumption|exact ints_len _|exact pairs_len _|exact quads_len _|exact quints_len _|exact bools_len _|(simp [ints_len,bools_len,pairs_len,quads_len,quints_len,part_len, *];done)|(simp [ints_len,bools_len,pairs_len,quads_len,quints_len];omega)|rfl) rfl rfl (by first|omega|(simp [ints_len,pairs_len,quads_len,quints_len,bools_len];omega)|(simp [ints_len,pairs_len,quads_len,quints_len,bools_len] at *;omega)) (by first|omega|(simp [ints_len,pairs_len,quads_len,quints_len,bools_len];omega)|(simp [ints_len,pairs_len,quads_len,quints_len,bools_len] at *;omega))) (y':=.c (.ro (ints (s.hist.take na)))) (by first|(simp [ints_cut,pairs_cut,bools_cut,ints_take,pairs_take,bools_take];done)|(simp [ints_cut,pairs_cut,bools_cut,ints_take,pairs_take,bools_take];rfl))) ?_
                                        refine x_frame [1,3,4,5,6] rfl rfl rfl rfl rfl ca_107 rfl (c___impl_Map__align (newMp s.head x) (s.hist.take na) hnew.1 hth (by rw [hnew.2];omega)) ?_
                                        rintro r S ⟨r0,S0,⟨rfl,rfl⟩,rfl,rfl⟩
                                        rw [← hal]
                                        generalize alM (newMp s.head x) (s.hist.take na)=W at *
                                        have hEM:=c_impl_EqualMaps ⟨mc,mt,(na:Int)⟩ W
                                        refine EOps_nil ?_
                                        refine G_seq ?_
                                        first
                                          | (refine G_ghostB 1 0 3 1 rfl rfl (by decide) ?_
                                             refine G_ghostB 1 1 3 1 rfl rfl (by decide) ?_
                                             refine G_ghostB 1 2 157 2 rfl rfl (by decide) ?_
                                             refine G_ghostB 1 3 3 1 rfl rfl (by decide) ?_
                                             have hwt:wantM s false x ⟨mc,mt,ma⟩=mp0:=by rw [wantM,if_neg (by decide)]
                                             have hEM:=c_impl_EqualMaps ⟨mc,mt,ma⟩ mp0)
                                          | skip
                                        refine g_tidy_A207_0 [0,1,2,3,4,5,6,7,85,87,88,89,90,104,115,126,140] ?_
                                        refine G_region' (L:=[0,1,2,3]) rfl ?_
                                        refine x_light rfl rfl rfl (L_load rfl (xb0 ty_72)) ?_
                                        refine x_light rfl rfl rfl (L_load rfl (xb0 ty_72)) ?_
                                        refine x_call rfl rfl rfl rfl rfl ca_108 (hEM) ?_
                                        rintro r S ⟨rfl,rfl⟩
                                        refine x_pure rfl rfl rfl (L_not rfl rfl) ?_
                                        refine EOps_nil ?_
                                        refine G_cond rfl (fun hc140=>?_) (fun hc140=>?_)
                                        · have hno : ¬ okK s k = true := fun e => by
                                            rw [hok] at e
                                            simp only [okM,Bool.and_eq_true,Bool.or_eq_true,decide_eq_true_eq] at e
                                            have e2:=e.2
                                            rw [hwt] at e2
                                            rw [e2] at hc140
                                            simp at hc140
                                          refine G_seq ?_
                                          refine G_region' (L:=[0]) rfl ?_
                                          refine xas ?_
                                          refine EOps_nil ?_
                                          refine G_ret ?_
                                          refine⟨_,[],rfl,rfl,bool_eq ?_,rfl⟩
                                          first
                                            | rw [hf]
                                            | rw [ms_no fun p=>hno (p.ok k hk1)]
                                            | rw [ms_mk ⟨hd,hus,hbu,fun j hj=>hall j (by omega)⟩]
                                        · have hyes : okK s k = true := by
                                            have e2:=by simpa using hc140
                                            rw [hok]
                                            simp only [okM,Bool.and_eq_true,Bool.or_eq_true,decide_eq_true_eq]
                                            rw [hwt]
                                            first
                                              | exact⟨⟨⟨hxv,hxl2⟩,.inl rfl⟩,e2⟩
                                              | exact⟨⟨⟨hxv,hxl2⟩,.inr ha0⟩,e2⟩
                                          refine G_skip ?_
                                          refine G_region' (L:=[0,1]) rfl ?_
                                          refine x_pure rfl rfl rfl xb2 ?_
                                          refine xmv ?_
                                          refine EOps_nil ?_
                                          refine⟨[0],rfl,k+1,?_,?_,rfl,⟨.inr rfl,.inl rfl,.inl rfl,.inl rfl,.inl rfl,trivial⟩,⟨.inr rfl,.inr rfl,.inr rfl,.inr rfl,.inr rfl,.inr rfl,trivial⟩⟩
                                          · first|omega|(dsimp only;omega)|(simp;omega)
                                          · exact ⟨by omega, fun j hj => by
                                              rcases Nat.lt_or_ge j k with h'|h'
                                              · exact hall j h'
                                              · obtain rfl : j = k := by omega
                                                exact hyes⟩
                                  · have hb0 : b = false := by simpa using hc115
                                    subst hb0
                                    refine G_skip ?_
                                    refine G_seq ?_
                                    first
                                      | (refine G_ghostB 1 0 3 1 rfl rfl (by decide) ?_
                                         refine G_ghostB 1 1 3 1 rfl rfl (by decide) ?_
                                         refine G_ghostB 1 2 157 2 rfl rfl (by decide) ?_
                                         refine G_ghostB 1 3 3 1 rfl rfl (by decide) ?_
                                         have hwt:wantM s false x ⟨mc,mt,ma⟩=mp0:=by rw [wantM,if_neg (by decide)]
                                         have hEM:=c_impl_EqualMaps ⟨mc,mt,ma⟩ mp0)
                                      | skip
                                    refine g_tidy_A207_0 [0,1,2,3,4,5,6,7,85,87,88,89,90,104,115,126,140] ?_
                                    refine G_region' (L:=[0,1,2,3]) rfl ?_
                                    refine x_light rfl rfl rfl (L_load rfl (xb0 ty_72)) ?_
                                    refine x_light rfl rfl rfl (L_load rfl (xb0 ty_72)) ?_
                                    refine x_call rfl rfl rfl rfl rfl ca_108 (hEM) ?_
                                    rintro r S ⟨rfl,rfl⟩
                                    refine x_pure rfl rfl rfl (L_not rfl rfl) ?_
                                    refine EOps_nil ?_
                                    refine G_cond rfl (fun hc140=>?_) (fun hc140=>?_)
                                    · have hno : ¬ okK s k = true := fun e => by
                                        rw [hok] at e
                                        simp only [okM,Bool.and_eq_true,Bool.or_eq_true,decide_eq_true_eq] at e
                                        have e2:=e.2
                                        rw [hwt] at e2
                                        rw [e2] at hc140
                                        simp at hc140
                                      refine G_seq ?_
                                      refine G_region' (L:=[0]) rfl ?_
                                      refine xas ?_
                                      refine EOps_nil ?_
                                      refine G_ret ?_
                                      refine⟨_,[],rfl,rfl,bool_eq ?_,rfl⟩
                                      first
                                        | rw [hf]
                                        | rw [ms_no fun p=>hno (p.ok k hk1)]
                                        | rw [ms_mk ⟨hd,hus,hbu,fun j hj=>hall j (by omega)⟩]
                                    · have hyes : okK s k = true := by
                                        have e2:=by simpa using hc140
                                        rw [hok]
                                        simp only [okM,Bool.and_eq_true,Bool.or_eq_true,decide_eq_true_eq]
                                        rw [hwt]
                                        first
                                          | exact⟨⟨⟨hxv,hxl2⟩,.inl rfl⟩,e2⟩
                                          | exact⟨⟨⟨hxv,hxl2⟩,.inr ha0⟩,e2⟩
                                      refine G_skip ?_
                                      refine G_region' (L:=[0,1]) rfl ?_
                                      refine x_pure rfl rfl rfl xb2 ?_
                                      refine xmv ?_
                                      refine EOps_nil ?_
                                      refine⟨[0],rfl,k+1,?_,?_,rfl,⟨.inr rfl,.inl rfl,.inl rfl,.inl rfl,.inl rfl,trivial⟩,⟨.inr rfl,.inr rfl,.inr rfl,.inr rfl,.inr rfl,.inr rfl,trivial⟩⟩
                                      · first|omega|(dsimp only;omega)|(simp;omega)
                                      · exact ⟨by omega, fun j hj => by
                                          rcases Nat.lt_or_ge j k with h'|h'
                                          · exact hall j h'
                                          · obtain rfl : j = k := by omega
                                            exact hyes⟩
                            · have hk2 : s.tails.length ≤ k := by simpa [nest_len] using hc90
                              refine G_exit ?_
                              refine G_seq ?_
                              refine G_region' (L:=[0]) rfl ?_
                              refine xas ?_
                              refine EOps_nil ?_
                              refine G_ret ?_
                              refine⟨_,[],rfl,rfl,bool_eq ?_,rfl⟩
                              first
                                | rw [hf]
                                | rw [ms_no fun p=>hno (p.ok k hk1)]
                                | rw [ms_mk ⟨hd,hus,hbu,fun j hj=>hall j (by omega)⟩]

set_option maxRecDepth 20000 in
set_option maxHeartbeats 4000000 in
theorem c_spec_l13Fresh (s : MSt) (k n : Nat) (x : List Int) (hz : msZ s ≤ 1048576) (hx : s.tails[k]? = some x) (hl : x.length ≤ 1048576) (hn : n ≤ s.hist.length) : EFn Tryz.prog 112 [.agg (msC s), .c (.sc (.int .i64 (k : Int))), .c (.sc (.int .i64 (n : Int)))] [] (fun r S => r = .agg (mpO 0 (alM (newMp s.head x) (s.hist.take n))) ∧ S = mpR 3 157 (alM (newMp s.head x) (s.hist.take n))) := by
 refine E_fn Tryz.func112 rfl (Nat.le_of_ble_eq_true rfl) ?_
 have hnx:=nest_get hx
 unfold msZ at hz
 have hnb:=newMp_bd (xs:=s.head) (ys:=x) (by omega) hl
 refine E_seq ?_
 refine E_region' (L:=[0,1]) rfl ?_
 refine x_box rfl rfl rfl rfl rfl ?_
 refine x_alloc rfl rfl rfl rfl za_72 ?_
 refine EOps_nil ?_
 refine E_seq ?_
 refine e_tidy_A207_2 [0,1,2,3,6] ?_
 refine E_drawT mixed ?_
 refine t_old 0 rfl rfl rfl (l_field rfl fo_31_0) ?_
 refine t_light 1 rfl rfl rfl (L_load rfl (xb0 ty_22)) ?_
 refine t_old 2 rfl rfl rfl (l_field rfl fo_31_1) ?_
 refine t_light 3 rfl rfl rfl (L_load rfl (xb0 ty_23)) ?_
 refine t_old 4 rfl rfl rfl (L_move rfl) ?_
 refine t_old 5 rfl rfl rfl (L_index rfl rfl (by first|exact i_ro sl_23 ty_22|exact i_sl sl_23 ty_22)) ?_
 refine t_light 6 rfl rfl rfl (L_load rfl (xb0 ty_22)) ?_
 refine t_old 8 rfl rfl rfl (l_field rfl fo_31_2) ?_
 refine t_light 9 rfl rfl rfl (L_load rfl (xb0 ty_22)) ?_
 refine t_old 10 rfl rfl rfl (L_move rfl) ?_
 refine t_old 11 rfl rfl rfl (Pure.as (by first|exact L_slice_ro (l:=0) (h:=n) rfl sl_22 ty_3 rfl rfl rfl (by first|omega|(simp [ints_len,pairs_len,quads_len,quints_len,bools_len];omega)|(simp [ints_len,pairs_len,quads_len,quints_len,bools_len] at *;omega)) (by first|omega|(simp [ints_len,pairs_len,quads_len,quints_len,bools_len];omega)|(simp [ints_len,pairs_len,quads_len,quints_len,bools_len] at *;omega)) (by first|exact fun r hr=>(ints_row _ r hr).1|exact fun r hr=>(pairs_row _ r hr).1|exact fun r hr=>(quads_row _ r hr).1|exact fun r hr=>(quints_row _ r hr).1|exact fun r hr=>(bools_row _ r hr).1)|exact L_slice_sl (l:=0) (h:=n) rfl sl_22 ty_3 rfl (by first|rfl|assumption) (by first|assumption|exact ints_len _|exact pairs_len _|exact quads_len _|exact quints_len _|exact bools_len _|(simp [ints_len,bools_len,pairs_len,quads_len,quints_len,part_len, *];done)|(simp [ints_len,bools_len,pairs_len,quads_len,quints_len];omega)|rfl) rfl rfl (by first|omega|(simp [ints_len,pairs_len,quads_len,quints_len,bools_len];omega)|(simp [ints_len,pairs_len,quads_len,quints_len,bools_len] at *;omega)) (by first|omega|(simp [ints_len,pairs_len,quads_len,quints_len,bools_len];omega)|(simp [ints_len,pairs_len,quads_len,quints_len,bools_len] at *;omega))) (y':=.c (.ro (ints (s.hist.take n)))) (by first|(simp [ints_cut,pairs_cut,bools_cut,ints_take,pairs_take,bools_take];done)|(simp [ints_cut,pairs_cut,bools_cut,ints_take,pairs_take,bools_take];rfl))) ?_
 refine t_main 3 [(⟨none,17,7,0⟩,_)] [(7,false),(12,false),(13,true),(14,true),(15,true),(16,true)] [18,23,10,24,25,26] [(7,.any),(18,.any),(23,.any),(10,.any),(24,.any),(25,.any),(26,.any)] [7,12,13,14,15,16,17] ⟨.one rfl rfl rfl (by decide) (F_alloc rfl za_72),trivial⟩ ?_
 refine m_call rfl rfl rfl rfl rfl ca_45 (c_spec_NewMap s.head x (by omega)) ?_
 rintro r S ⟨rfl,rfl⟩
 refine m_call rfl rfl rfl rfl rfl ca_44 (c_spec_AlignMap (newMp s.head x) (s.hist.take n) hnb) ?_
 rintro r S ⟨rfl,rfl⟩
 refine m_pure rfl rfl rfl (L_move rfl) ?_
 refine m_pure rfl rfl rfl (L_extract rfl rfl) ?_
 refine m_pure rfl rfl rfl (L_extract rfl rfl) ?_
 refine m_pure rfl rfl rfl (L_extract rfl rfl) ?_
 refine m_done ?_
 refine fk_cons ?_
 rintro r S ⟨rfl,rfl⟩
 refine fk_nil ?_
 refine t_turn 18 rfl rfl (EOp_store rfl rfl rfl (xb1 ty_72) ?_)
 refine t_old 19 rfl rfl rfl (L_assign rfl) ?_
 refine t_old 20 rfl rfl rfl (L_assign rfl) ?_
 refine T_done (by kernel_rfl) ?_
 refine E_seq ?_
 refine E_region' (L:=[0,1]) rfl ?_
 refine x_light rfl rfl rfl (L_load rfl (xb0 ty_72)) ?_
 refine EOps_go rfl rfl (EOp_store rfl rfl rfl (xb1 ty_72) ?_)
 refine EOps_nil ?_
 refine E_ret ?_
 exact⟨_,[6,7,8,9],rfl,rfl,rfl,rfl⟩

set_option maxRecDepth 20000 in
set_option maxHeartbeats 16000000 in
theorem c_spec_IsMapSet (s : MSt) (hz : msZ s ≤ 1048576) : EFn Tryz.prog 43 [.agg (msC s)] [] (fun r S => r = .c (.sc (.bool (isMS s))) ∧ S = []) := by
  refine E_fn Tryz.func43 rfl (Nat.le_of_ble_eq_true rfl) ?_
  refine E_G (n:=0) rfl ?_
  have hnl:=nest_len s.tails
  have hml:=mps_len s.maps
  have hbl:=bools_len s.built
  have hul:=ints_len s.used
  have hz0:=hz
  unfold msZ at hz
  refine G_seq ?_
  refine G_region' (L:=[0,1]) rfl ?_
  refine x_box rfl rfl rfl rfl rfl ?_
  refine xas ?_
  refine EOps_nil ?_
  refine G_seq ?_
  refine G_region' (L:=[0,1,2,3]) rfl ?_
  refine x_pure rfl rfl rfl (l_field rfl fo_31_1) ?_
  refine x_light rfl rfl rfl (L_load rfl (xb0 ty_23)) ?_
  refine x_pure rfl rfl rfl (l_len rfl sl_23) ?_
  refine xas ?_
  refine EOps_nil ?_
  refine G_seq ?_
  refine G_seq ?_
  refine g_tidy_A207_0 [0,1,2,3] ?_
  refine G_region' (L:=[0,1,2,3,4,5,6,7,8,9,10,11,12,13,14,15,16,17,18,19,20,21,22,23,24,25,26,27,28,29,30,31,32,33,34,35,36,37,38,39,40,41,42,43,44,45,46,47]) rfl ?_
  refine x_pure rfl rfl rfl (l_field rfl fo_31_0) ?_
  refine x_light rfl rfl rfl (L_load rfl (xb0 ty_22)) ?_
  refine x_call rfl rfl rfl rfl rfl ca_110 (c_spec_AreValues s.head) ?_
  rintro r S ⟨rfl,rfl⟩
  refine x_pure rfl rfl rfl (L_not rfl rfl) ?_
  refine xmv ?_
  refine EOps_split 14 (b:=_) rfl (fun hg14=>?_) (fun hg14=>?_)
  · refine x_skip rfl rfl rfl ?_
    refine x_skip rfl rfl rfl ?_
    refine x_skip rfl rfl rfl ?_
    refine x_pure rfl rfl rfl (L_pick rfl rfl) ?_
    refine xmv ?_
    refine x_skip rfl rfl rfl ?_
    refine x_skip rfl rfl rfl ?_
    refine x_skip rfl rfl rfl ?_
    refine x_skip rfl rfl rfl ?_
    refine x_pure rfl rfl rfl (L_pick rfl rfl) ?_
    refine xmv ?_
    refine x_skip rfl rfl rfl ?_
    refine x_skip rfl rfl rfl ?_
    refine x_skip rfl rfl rfl ?_
    refine x_skip rfl rfl rfl ?_
    refine x_skip rfl rfl rfl ?_
    refine x_pure rfl rfl rfl (L_pick rfl rfl) ?_
    refine xmv ?_
    refine x_skip rfl rfl rfl ?_
    refine x_skip rfl rfl rfl ?_
    refine x_skip rfl rfl rfl ?_
    refine x_skip rfl rfl rfl ?_
    refine x_skip rfl rfl rfl ?_
    refine x_pure rfl rfl rfl (L_pick rfl rfl) ?_
    refine xmv ?_
    refine x_skip rfl rfl rfl ?_
    refine x_skip rfl rfl rfl ?_
    refine x_skip rfl rfl rfl ?_
    refine x_skip rfl rfl rfl ?_
    refine x_skip rfl rfl rfl ?_
    refine x_pure rfl rfl rfl (L_pick rfl rfl) ?_
    refine xmv ?_
    refine x_skip rfl rfl rfl ?_
    refine x_skip rfl rfl rfl ?_
    refine x_skip rfl rfl rfl ?_
    refine x_skip rfl rfl rfl ?_
    refine x_pure rfl rfl rfl (L_pick rfl rfl) ?_
    refine xmv ?_
    refine x_skip rfl rfl rfl ?_
    refine x_skip rfl rfl rfl ?_
    refine x_skip rfl rfl rfl ?_
    refine x_skip rfl rfl rfl ?_
    refine x_pure rfl rfl rfl (L_pick rfl rfl) ?_
    refine EOps_nil ?_
    refine G_cond rfl (fun hc57=>?_) (fun hc57=>?_)
    · have hf : isMS s = false := ms_no fun p => by
        have q:=p.hd
        have q1:=q.n1
        have q2:=q.cl
        have q3:=q.bu
        have q5:=q.ml
        have q6:=q.bl
        have q7:=q.ul
        first
          | (simp [q.hd] at hg14;done)
          | (simp [isIn] at hg19;omega)
          | (simp [q.hi] at hg25;done)
          | (simp at hg32;omega)
          | (simp at hg39;omega)
          | (simp at hg46;omega)
          | (simp [isIn] at hg52;omega)
          | (simp [isIn] at hc57;omega)
      refine G_seq ?_
      refine G_region' (L:=[0]) rfl ?_
      refine xas ?_
      refine EOps_nil ?_
      refine G_ret ?_
      refine⟨_,[],rfl,rfl,bool_eq ?_,rfl⟩
      first
        | rw [hf]
        | rw [ms_no fun p=>hno (p.ok k hk1)]
        | rw [ms_no fun p=>by have:=us_at p.us hu;simp [this] at hc92]
        | exact⟨fun h=>ms_mk ⟨hd,hus,by simp at h;unfold blt;rw [hd.bl];exact h,fun j hj=>hall j (by omega)⟩,fun h=>by have:=(ms_ok h).bu;unfold blt at this;rw [hd.bl] at this;simpa using this⟩
    · exact Bool.noConfusion (hc57:true=false)
  · refine xmv ?_
    refine x_call rfl rfl rfl rfl rfl ca_59 (c_spec_l1In (s.tails.length:Int) 1 4) ?_
    rintro r S ⟨rfl,rfl⟩
    refine x_pure rfl rfl rfl (L_not rfl rfl) ?_
    refine x_pure rfl rfl rfl (L_pick rfl rfl) ?_
    refine xmv ?_
    refine EOps_split 19 (b:=_) rfl (fun hg19=>?_) (fun hg19=>?_)
    · refine x_skip rfl rfl rfl ?_
      refine x_skip rfl rfl rfl ?_
      refine x_skip rfl rfl rfl ?_
      refine x_skip rfl rfl rfl ?_
      refine x_pure rfl rfl rfl (L_pick rfl rfl) ?_
      refine xmv ?_
      refine x_skip rfl rfl rfl ?_
      refine x_skip rfl rfl rfl ?_
      refine x_skip rfl rfl rfl ?_
      refine x_skip rfl rfl rfl ?_
      refine x_skip rfl rfl rfl ?_
      refine x_pure rfl rfl rfl (L_pick rfl rfl) ?_
      refine xmv ?_
      refine x_skip rfl rfl rfl ?_
      refine x_skip rfl rfl rfl ?_
      refine x_skip rfl rfl rfl ?_
      refine x_skip rfl rfl rfl ?_
      refine x_skip rfl rfl rfl ?_
      refine x_pure rfl rfl rfl (L_pick rfl rfl) ?_
      refine xmv ?_
      refine x_skip rfl rfl rfl ?_
      refine x_skip rfl rfl rfl ?_
      refine x_skip rfl rfl rfl ?_
      refine x_skip rfl rfl rfl ?_
      refine x_skip rfl rfl rfl ?_
      refine x_pure rfl rfl rfl (L_pick rfl rfl) ?_
      refine xmv ?_
      refine x_skip rfl rfl rfl ?_
      refine x_skip rfl rfl rfl ?_
      refine x_skip rfl rfl rfl ?_
      refine x_skip rfl rfl rfl ?_
      refine x_pure rfl rfl rfl (L_pick rfl rfl) ?_
      refine xmv ?_
      refine x_skip rfl rfl rfl ?_
      refine x_skip rfl rfl rfl ?_
      refine x_skip rfl rfl rfl ?_
      refine x_skip rfl rfl rfl ?_
      refine x_pure rfl rfl rfl (L_pick rfl rfl) ?_
      refine EOps_nil ?_
      refine G_cond rfl (fun hc57=>?_) (fun hc57=>?_)
      · have hf : isMS s = false := ms_no fun p => by
          have q:=p.hd
          have q1:=q.n1
          have q2:=q.cl
          have q3:=q.bu
          have q5:=q.ml
          have q6:=q.bl
          have q7:=q.ul
          first
            | (simp [q.hd] at hg14;done)
            | (simp [isIn] at hg19;omega)
            | (simp [q.hi] at hg25;done)
            | (simp at hg32;omega)
            | (simp at hg39;omega)
            | (simp at hg46;omega)
            | (simp [isIn] at hg52;omega)
            | (simp [isIn] at hc57;omega)
        refine G_seq ?_
        refine G_region' (L:=[0]) rfl ?_
        refine xas ?_
        refine EOps_nil ?_
        refine G_ret ?_
        refine⟨_,[],rfl,rfl,bool_eq ?_,rfl⟩
        first
          | rw [hf]
          | rw [ms_no fun p=>hno (p.ok k hk1)]
          | rw [ms_no fun p=>by have:=us_at p.us hu;simp [this] at hc92]
          | exact⟨fun h=>ms_mk ⟨hd,hus,by simp at h;unfold blt;rw [hd.bl];exact h,fun j hj=>hall j (by omega)⟩,fun h=>by have:=(ms_ok h).bu;unfold blt at this;rw [hd.bl] at this;simpa using this⟩
      · exact Bool.noConfusion (hc57:true=false)
    · refine x_pure rfl rfl rfl (l_field rfl fo_31_2) ?_
      refine x_light rfl rfl rfl (L_load rfl (xb0 ty_22)) ?_
      refine x_call rfl rfl rfl rfl rfl ca_111 (c_spec_l12History s.hist) ?_
      rintro r S ⟨rfl,rfl⟩
      refine x_pure rfl rfl rfl (L_not rfl rfl) ?_
      refine x_pure rfl rfl rfl (L_pick rfl rfl) ?_
      refine xmv ?_
      refine EOps_split 25 (b:=_) rfl (fun hg25=>?_) (fun hg25=>?_)
      · refine x_skip rfl rfl rfl ?_
        refine x_skip rfl rfl rfl ?_
        refine x_skip rfl rfl rfl ?_
        refine x_skip rfl rfl rfl ?_
        refine x_skip rfl rfl rfl ?_
        refine x_pure rfl rfl rfl (L_pick rfl rfl) ?_
        refine xmv ?_
        refine x_skip rfl rfl rfl ?_
        refine x_skip rfl rfl rfl ?_
        refine x_skip rfl rfl rfl ?_
        refine x_skip rfl rfl rfl ?_
        refine x_skip rfl rfl rfl ?_
        refine x_pure rfl rfl rfl (L_pick rfl rfl) ?_
        refine xmv ?_
        refine x_skip rfl rfl rfl ?_
        refine x_skip rfl rfl rfl ?_
        refine x_skip rfl rfl rfl ?_
        refine x_skip rfl rfl rfl ?_
        refine x_skip rfl rfl rfl ?_
        refine x_pure rfl rfl rfl (L_pick rfl rfl) ?_
        refine xmv ?_
        refine x_skip rfl rfl rfl ?_
        refine x_skip rfl rfl rfl ?_
        refine x_skip rfl rfl rfl ?_
        refine x_skip rfl rfl rfl ?_
        refine x_pure rfl rfl rfl (L_pick rfl rfl) ?_
        refine xmv ?_
        refine x_skip rfl rfl rfl ?_
        refine x_skip rfl rfl rfl ?_
        refine x_skip rfl rfl rfl ?_
        refine x_skip rfl rfl rfl ?_
        refine x_pure rfl rfl rfl (L_pick rfl rfl) ?_
        refine EOps_nil ?_
        refine G_cond rfl (fun hc57=>?_) (fun hc57=>?_)
        · have hf : isMS s = false := ms_no fun p => by
            have q:=p.hd
            have q1:=q.n1
            have q2:=q.cl
            have q3:=q.bu
            have q5:=q.ml
            have q6:=q.bl
            have q7:=q.ul
            first
              | (simp [q.hd] at hg14;done)
              | (simp [isIn] at hg19;omega)
              | (simp [q.hi] at hg25;done)
              | (simp at hg32;omega)
              | (simp at hg39;omega)
              | (simp at hg46;omega)
              | (simp [isIn] at hg52;omega)
              | (simp [isIn] at hc57;omega)
          refine G_seq ?_
          refine G_region' (L:=[0]) rfl ?_
          refine xas ?_
          refine EOps_nil ?_
          refine G_ret ?_
          refine⟨_,[],rfl,rfl,bool_eq ?_,rfl⟩
          first
            | rw [hf]
            | rw [ms_no fun p=>hno (p.ok k hk1)]
            | rw [ms_no fun p=>by have:=us_at p.us hu;simp [this] at hc92]
            | exact⟨fun h=>ms_mk ⟨hd,hus,by simp at h;unfold blt;rw [hd.bl];exact h,fun j hj=>hall j (by omega)⟩,fun h=>by have:=(ms_ok h).bu;unfold blt at this;rw [hd.bl] at this;simpa using this⟩
        · exact Bool.noConfusion (hc57:true=false)
      · refine x_pure rfl rfl rfl (l_field rfl fo_31_3) ?_
        refine x_light rfl rfl rfl (L_load rfl (xb0 ty_29)) ?_
        refine x_pure rfl rfl rfl (l_len rfl sl_29) ?_
        refine xmv ?_
        refine x_pure rfl rfl rfl (L_bin rfl rfl rfl rfl) ?_
        refine x_pure rfl rfl rfl (L_pick rfl rfl) ?_
        refine xmv ?_
        refine EOps_split 32 (b:=_) rfl (fun hg32=>?_) (fun hg32=>?_)
        · refine x_skip rfl rfl rfl ?_
          refine x_skip rfl rfl rfl ?_
          refine x_skip rfl rfl rfl ?_
          refine x_skip rfl rfl rfl ?_
          refine x_skip rfl rfl rfl ?_
          refine x_pure rfl rfl rfl (L_pick rfl rfl) ?_
          refine xmv ?_
          refine x_skip rfl rfl rfl ?_
          refine x_skip rfl rfl rfl ?_
          refine x_skip rfl rfl rfl ?_
          refine x_skip rfl rfl rfl ?_
          refine x_skip rfl rfl rfl ?_
          refine x_pure rfl rfl rfl (L_pick rfl rfl) ?_
          refine xmv ?_
          refine x_skip rfl rfl rfl ?_
          refine x_skip rfl rfl rfl ?_
          refine x_skip rfl rfl rfl ?_
          refine x_skip rfl rfl rfl ?_
          refine x_pure rfl rfl rfl (L_pick rfl rfl) ?_
          refine xmv ?_
          refine x_skip rfl rfl rfl ?_
          refine x_skip rfl rfl rfl ?_
          refine x_skip rfl rfl rfl ?_
          refine x_skip rfl rfl rfl ?_
          refine x_pure rfl rfl rfl (L_pick rfl rfl) ?_
          refine EOps_nil ?_
          refine G_cond rfl (fun hc57=>?_) (fun hc57=>?_)
          · have hf : isMS s = false := ms_no fun p => by
              have q:=p.hd
              have q1:=q.n1
              have q2:=q.cl
              have q3:=q.bu
              have q5:=q.ml
              have q6:=q.bl
              have q7:=q.ul
              first
                | (simp [q.hd] at hg14;done)
                | (simp [isIn] at hg19;omega)
                | (simp [q.hi] at hg25;done)
                | (simp at hg32;omega)
                | (simp at hg39;omega)
                | (simp at hg46;omega)
                | (simp [isIn] at hg52;omega)
                | (simp [isIn] at hc57;omega)
            refine G_seq ?_
            refine G_region' (L:=[0]) rfl ?_
            refine xas ?_
            refine EOps_nil ?_
            refine G_ret ?_
            refine⟨_,[],rfl,rfl,bool_eq ?_,rfl⟩
            first
              | rw [hf]
              | rw [ms_no fun p=>hno (p.ok k hk1)]
              | rw [ms_no fun p=>by have:=us_at p.us hu;simp [this] at hc92]
              | exact⟨fun h=>ms_mk ⟨hd,hus,by simp at h;unfold blt;rw [hd.bl];exact h,fun j hj=>hall j (by omega)⟩,fun h=>by have:=(ms_ok h).bu;unfold blt at this;rw [hd.bl] at this;simpa using this⟩
          · exact Bool.noConfusion (hc57:true=false)
        · refine x_pure rfl rfl rfl (l_field rfl fo_31_4) ?_
          refine x_light rfl rfl rfl (L_load rfl (xb0 ty_25)) ?_
          refine x_pure rfl rfl rfl (l_len rfl sl_25) ?_
          refine xmv ?_
          refine x_pure rfl rfl rfl (L_bin rfl rfl rfl rfl) ?_
          refine x_pure rfl rfl rfl (L_pick rfl rfl) ?_
          refine xmv ?_
          refine EOps_split 39 (b:=_) rfl (fun hg39=>?_) (fun hg39=>?_)
          · refine x_skip rfl rfl rfl ?_
            refine x_skip rfl rfl rfl ?_
            refine x_skip rfl rfl rfl ?_
            refine x_skip rfl rfl rfl ?_
            refine x_skip rfl rfl rfl ?_
            refine x_pure rfl rfl rfl (L_pick rfl rfl) ?_
            refine xmv ?_
            refine x_skip rfl rfl rfl ?_
            refine x_skip rfl rfl rfl ?_
            refine x_skip rfl rfl rfl ?_
            refine x_skip rfl rfl rfl ?_
            refine x_pure rfl rfl rfl (L_pick rfl rfl) ?_
            refine xmv ?_
            refine x_skip rfl rfl rfl ?_
            refine x_skip rfl rfl rfl ?_
            refine x_skip rfl rfl rfl ?_
            refine x_skip rfl rfl rfl ?_
            refine x_pure rfl rfl rfl (L_pick rfl rfl) ?_
            refine EOps_nil ?_
            refine G_cond rfl (fun hc57=>?_) (fun hc57=>?_)
            · have hf : isMS s = false := ms_no fun p => by
                have q:=p.hd
                have q1:=q.n1
                have q2:=q.cl
                have q3:=q.bu
                have q5:=q.ml
                have q6:=q.bl
                have q7:=q.ul
                first
                  | (simp [q.hd] at hg14;done)
                  | (simp [isIn] at hg19;omega)
                  | (simp [q.hi] at hg25;done)
                  | (simp at hg32;omega)
                  | (simp at hg39;omega)
                  | (simp at hg46;omega)
                  | (simp [isIn] at hg52;omega)
                  | (simp [isIn] at hc57;omega)
              refine G_seq ?_
              refine G_region' (L:=[0]) rfl ?_
              refine xas ?_
              refine EOps_nil ?_
              refine G_ret ?_
              refine⟨_,[],rfl,rfl,bool_eq ?_,rfl⟩
              first
                | rw [hf]
                | rw [ms_no fun p=>hno (p.ok k hk1)]
                | rw [ms_no fun p=>by have:=us_at p.us hu;simp [this] at hc92]
                | exact⟨fun h=>ms_mk ⟨hd,hus,by simp at h;unfold blt;rw [hd.bl];exact h,fun j hj=>hall j (by omega)⟩,fun h=>by have:=(ms_ok h).bu;unfold blt at this;rw [hd.bl] at this;simpa using this⟩
            · exact Bool.noConfusion (hc57:true=false)
          · refine x_pure rfl rfl rfl (l_field rfl fo_31_5) ?_
            refine x_light rfl rfl rfl (L_load rfl (xb0 ty_22)) ?_
            refine x_pure rfl rfl rfl (l_len rfl sl_22) ?_
            refine xmv ?_
            refine x_pure rfl rfl rfl (L_bin rfl rfl rfl rfl) ?_
            refine x_pure rfl rfl rfl (L_pick rfl rfl) ?_
            refine xmv ?_
            refine EOps_split 46 (b:=_) rfl (fun hg46=>?_) (fun hg46=>?_)
            · refine x_skip rfl rfl rfl ?_
              refine x_skip rfl rfl rfl ?_
              refine x_skip rfl rfl rfl ?_
              refine x_skip rfl rfl rfl ?_
              refine x_pure rfl rfl rfl (L_pick rfl rfl) ?_
              refine xmv ?_
              refine x_skip rfl rfl rfl ?_
              refine x_skip rfl rfl rfl ?_
              refine x_skip rfl rfl rfl ?_
              refine x_skip rfl rfl rfl ?_
              refine x_pure rfl rfl rfl (L_pick rfl rfl) ?_
              refine EOps_nil ?_
              refine G_cond rfl (fun hc57=>?_) (fun hc57=>?_)
              · have hf : isMS s = false := ms_no fun p => by
                  have q:=p.hd
                  have q1:=q.n1
                  have q2:=q.cl
                  have q3:=q.bu
                  have q5:=q.ml
                  have q6:=q.bl
                  have q7:=q.ul
                  first
                    | (simp [q.hd] at hg14;done)
                    | (simp [isIn] at hg19;omega)
                    | (simp [q.hi] at hg25;done)
                    | (simp at hg32;omega)
                    | (simp at hg39;omega)
                    | (simp at hg46;omega)
                    | (simp [isIn] at hg52;omega)
                    | (simp [isIn] at hc57;omega)
                refine G_seq ?_
                refine G_region' (L:=[0]) rfl ?_
                refine xas ?_
                refine EOps_nil ?_
                refine G_ret ?_
                refine⟨_,[],rfl,rfl,bool_eq ?_,rfl⟩
                first
                  | rw [hf]
                  | rw [ms_no fun p=>hno (p.ok k hk1)]
                  | rw [ms_no fun p=>by have:=us_at p.us hu;simp [this] at hc92]
                  | exact⟨fun h=>ms_mk ⟨hd,hus,by simp at h;unfold blt;rw [hd.bl];exact h,fun j hj=>hall j (by omega)⟩,fun h=>by have:=(ms_ok h).bu;unfold blt at this;rw [hd.bl] at this;simpa using this⟩
              · exact Bool.noConfusion (hc57:true=false)
            · refine x_pure rfl rfl rfl (l_field rfl fo_31_6) ?_
              refine x_light rfl rfl rfl (L_load rfl (xb0 ty_3)) ?_
              refine x_call rfl rfl rfl rfl rfl ca_59 (c_spec_l1In s.clock 0 1000000) ?_
              rintro r S ⟨rfl,rfl⟩
              refine x_pure rfl rfl rfl (L_not rfl rfl) ?_
              refine x_pure rfl rfl rfl (L_pick rfl rfl) ?_
              refine xmv ?_
              refine EOps_split 52 (b:=_) rfl (fun hg52=>?_) (fun hg52=>?_)
              · refine x_skip rfl rfl rfl ?_
                refine x_skip rfl rfl rfl ?_
                refine x_skip rfl rfl rfl ?_
                refine x_skip rfl rfl rfl ?_
                refine x_pure rfl rfl rfl (L_pick rfl rfl) ?_
                refine EOps_nil ?_
                refine G_cond rfl (fun hc57=>?_) (fun hc57=>?_)
                · have hf : isMS s = false := ms_no fun p => by
                    have q:=p.hd
                    have q1:=q.n1
                    have q2:=q.cl
                    have q3:=q.bu
                    have q5:=q.ml
                    have q6:=q.bl
                    have q7:=q.ul
                    first
                      | (simp [q.hd] at hg14;done)
                      | (simp [isIn] at hg19;omega)
                      | (simp [q.hi] at hg25;done)
                      | (simp at hg32;omega)
                      | (simp at hg39;omega)
                      | (simp at hg46;omega)
                      | (simp [isIn] at hg52;omega)
                      | (simp [isIn] at hc57;omega)
                  refine G_seq ?_
                  refine G_region' (L:=[0]) rfl ?_
                  refine xas ?_
                  refine EOps_nil ?_
                  refine G_ret ?_
                  refine⟨_,[],rfl,rfl,bool_eq ?_,rfl⟩
                  first
                    | rw [hf]
                    | rw [ms_no fun p=>hno (p.ok k hk1)]
                    | rw [ms_no fun p=>by have:=us_at p.us hu;simp [this] at hc92]
                    | exact⟨fun h=>ms_mk ⟨hd,hus,by simp at h;unfold blt;rw [hd.bl];exact h,fun j hj=>hall j (by omega)⟩,fun h=>by have:=(ms_ok h).bu;unfold blt at this;rw [hd.bl] at this;simpa using this⟩
                · exact Bool.noConfusion (hc57:true=false)
              · refine x_pure rfl rfl rfl (l_field rfl fo_31_7) ?_
                refine x_light rfl rfl rfl (L_load rfl (xb0 ty_3)) ?_
                refine x_call rfl rfl rfl rfl rfl ca_59 (c_spec_l1In s.budget 1 4) ?_
                rintro r S ⟨rfl,rfl⟩
                refine x_pure rfl rfl rfl (L_not rfl rfl) ?_
                refine x_pure rfl rfl rfl (L_pick rfl rfl) ?_
                refine EOps_nil ?_
                refine G_cond rfl (fun hc57=>?_) (fun hc57=>?_)
                · have hf : isMS s = false := ms_no fun p => by
                    have q:=p.hd
                    have q1:=q.n1
                    have q2:=q.cl
                    have q3:=q.bu
                    have q5:=q.ml
                    have q6:=q.bl
                    have q7:=q.ul
                    first
                      | (simp [q.hd] at hg14;done)
                      | (simp [isIn] at hg19;omega)
                      | (simp [q.hi] at hg25;done)
                      | (simp at hg32;omega)
                      | (simp at hg39;omega)
                      | (simp at hg46;omega)
                      | (simp [isIn] at hg52;omega)
                      | (simp [isIn] at hc57;omega)
                  refine G_seq ?_
                  refine G_region' (L:=[0]) rfl ?_
                  refine xas ?_
                  refine EOps_nil ?_
                  refine G_ret ?_
                  refine⟨_,[],rfl,rfl,bool_eq ?_,rfl⟩
                  first
                    | rw [hf]
                    | rw [ms_no fun p=>hno (p.ok k hk1)]
                    | rw [ms_no fun p=>by have:=us_at p.us hu;simp [this] at hc92]
                    | exact⟨fun h=>ms_mk ⟨hd,hus,by simp at h;unfold blt;rw [hd.bl];exact h,fun j hj=>hall j (by omega)⟩,fun h=>by have:=(ms_ok h).bu;unfold blt at this;rw [hd.bl] at this;simpa using this⟩
                · have hd : HdOk s := ⟨by simpa using hg14, by simp [isIn] at hg19; omega, by simpa using hg25, by simp at hg32; omega, by simp at hg39; omega, by simp at hg46; omega, by simp [isIn] at hg52; omega, by simp [isIn] at hc57; omega⟩
                  have hxl:=areVals_parts hd.hd
                  refine G_skip ?_
                  refine G_seq ?_
                  refine G_region' (L:=[0]) rfl ?_
                  refine xas ?_
                  refine EOps_nil ?_
                  refine G_seq ?_
                  refine G_seq ?_
                  refine G_region' (L:=[0]) rfl ?_
                  refine xas ?_
                  refine EOps_nil ?_
                  refine G_block ?_
                  refine G_drop [0,1,2,3,4,5] [0] rfl rfl rfl ?_
                  refine g_forD_A207_1 (α:=Nat) [0,1,3,57] (fun k=>[(5,.c (.sc (.int .i64 (k)))),(4,.c (.sc (.int .i64 (((bltN s.built k).length:Nat))))),(6,.any)]) (fun k=>[.box (msC s)]) (fun k=>k≤s.tails.length∧(∀ j,j<k→okK s j=true) ∧ ∀ j u,j<k→s.used[j]? = some u→isIn u 0 s.clock=true) (fun k=>s.tails.length - k) (0) ?_ (rfl) ⟨.inr rfl,.inr rfl,.inl rfl,trivial⟩ ?_
                  · exact⟨Nat.zero_le _,fun j hj=>by omega,fun j u hj=>by omega⟩
                  rintro k ⟨hk,hall,huall⟩
                  have hpl:=bltN_len s.built k
                  refine G_seq ?_
                  refine G_seq ?_
                  refine G_region' (L:=[0,1,2]) rfl ?_
                  refine xmv ?_
                  refine xmv ?_
                  refine x_pure rfl rfl rfl (L_bin rfl rfl rfl rfl) ?_
                  refine EOps_nil ?_
                  refine G_cond rfl (fun hc60=>?_) (fun hc60=>?_)
                  · have hk1 : k < s.tails.length := by simpa [nest_len] using hc60
                    have q5:=hd.ml
                    have q6:=hd.bl
                    have q7:=hd.ul
                    obtain⟨x,hx⟩:=at_lt hk1
                    obtain⟨⟨mc,mt,ma⟩,hm⟩:=at_lt (l:=s.maps) (k:=k) (by omega)
                    obtain⟨b,hb⟩:=at_lt (l:=s.built) (k:=k) (by omega)
                    obtain⟨u,hu⟩:=at_lt (l:=s.used) (k:=k) (by omega)
                    have hnx:=nest_get hx
                    have hmx:=mps_get hm
                    have hbx:=bools_at hb
                    have hux:=ints_at hu
                    have hok:=okK_at hx hm hb
                    have hst0:=bltN_at hb
                    have hxbd:x.length≤1048576:=by have:=totL_step hx;have:=totL_take s.tails (k+1);omega
                    refine G_skip ?_
                    refine G_seq ?_
                    refine G_block ?_
                    refine G_seq ?_
                    refine G_seq ?_
                    refine g_tidy_A207_0 [0,1,2,3,4,5,6,57,60,92,98,111,128] ?_
                    refine G_drawT mixed ?_
                    refine t_old 0 rfl rfl rfl (l_field rfl fo_31_1) ?_
                    refine t_light 1 rfl rfl rfl (L_load rfl (xb0 ty_23)) ?_
                    refine t_old 2 rfl rfl rfl (L_move rfl) ?_
                    refine t_old 3 rfl rfl rfl (L_index rfl rfl (by first|exact i_ro sl_23 ty_22|exact i_sl sl_23 ty_22)) ?_
                    refine t_light 4 rfl rfl rfl (L_load rfl (xb0 ty_22)) ?_
                    refine t_call 5 rfl rfl rfl rfl rfl ca_110 (c_spec_AreValues x) ?_
                    rintro r S ⟨rfl,rfl⟩
                    refine t_old 6 rfl rfl rfl (L_not rfl rfl) ?_
                    refine t_old 7 rfl rfl rfl (L_move rfl) ?_
                    refine T_split 70 (b:=_) rfl rfl (fun hg70=>?_) (fun hg70=>?_)
                    · have hno : ¬ okK s k = true := fun e => by
                        rw [hok] at e
                        simp only [okM,Bool.and_eq_true,decide_eq_true_eq] at e
                        simp [e.1.1.1] at hg70
                      refine t_skip 8 rfl rfl rfl ?_
                      refine t_skip 9 rfl rfl rfl ?_
                      refine t_skip 10 rfl rfl rfl ?_
                      refine t_skip 11 rfl rfl rfl ?_
                      refine t_skip 12 rfl rfl rfl ?_
                      refine t_skip 13 rfl rfl rfl ?_
                      refine t_skip 14 rfl rfl rfl ?_
                      refine t_skip 15 rfl rfl rfl ?_
                      refine t_skip 16 rfl rfl rfl ?_
                      refine t_skip 17 rfl rfl rfl ?_
                      refine t_old 18 rfl rfl rfl (L_pick rfl rfl) ?_
                      refine t_old 19 rfl rfl rfl (L_move rfl) ?_
                      refine t_skip 20 rfl rfl rfl ?_
                      refine t_skip 21 rfl rfl rfl ?_
                      refine t_skip 22 rfl rfl rfl ?_
                      refine t_skip 23 rfl rfl rfl ?_
                      refine t_skip 24 rfl rfl rfl ?_
                      refine t_skip 25 rfl rfl rfl ?_
                      refine t_skip 26 rfl rfl rfl ?_
                      refine t_skip 27 rfl rfl rfl ?_
                      refine t_skip 28 rfl rfl rfl ?_
                      refine t_old 29 rfl rfl rfl (L_pick rfl rfl) ?_
                      refine T_done (by kernel_rfl) ?_
                      refine G_cond rfl (fun hc92=>?_) (fun hc92=>?_)
                      · refine G_seq ?_
                        refine G_region' (L:=[0]) rfl ?_
                        refine xas ?_
                        refine EOps_nil ?_
                        refine G_ret ?_
                        refine⟨_,[],rfl,rfl,bool_eq ?_,rfl⟩
                        first
                          | rw [hf]
                          | rw [ms_no fun p=>hno (p.ok k hk1)]
                          | rw [ms_no fun p=>by have:=us_at p.us hu;simp [this] at hc92]
                          | exact⟨fun h=>ms_mk ⟨hd,hus,by simp at h;unfold blt;rw [hd.bl];exact h,fun j hj=>hall j (by omega)⟩,fun h=>by have:=(ms_ok h).bu;unfold blt at this;rw [hd.bl] at this;simpa using this⟩
                      · exact Bool.noConfusion (hc92:true=false)
                    · refine t_old 8 rfl rfl rfl (l_field rfl fo_31_1) ?_
                      refine t_light 9 rfl rfl rfl (L_load rfl (xb0 ty_23)) ?_
                      refine t_old 10 rfl rfl rfl (L_move rfl) ?_
                      refine t_old 11 rfl rfl rfl (L_index rfl rfl (by first|exact i_ro sl_23 ty_22|exact i_sl sl_23 ty_22)) ?_
                      refine t_light 12 rfl rfl rfl (L_load rfl (xb0 ty_22)) ?_
                      refine t_old 13 rfl rfl rfl (l_len rfl sl_22) ?_
                      refine t_old 14 rfl rfl rfl (l_field rfl fo_31_0) ?_
                      refine t_light 15 rfl rfl rfl (L_load rfl (xb0 ty_22)) ?_
                      refine t_old 16 rfl rfl rfl (l_len rfl sl_22) ?_
                      refine t_old 17 rfl rfl rfl (L_bin rfl rfl rfl rfl) ?_
                      refine t_old 18 rfl rfl rfl (L_pick rfl rfl) ?_
                      refine t_old 19 rfl rfl rfl (L_move rfl) ?_
                      refine T_split 82 (b:=_) rfl rfl (fun hg82=>?_) (fun hg82=>?_)
                      · have hno : ¬ okK s k = true := fun e => by
                          rw [hok] at e
                          simp only [okM,Bool.and_eq_true,decide_eq_true_eq] at e
                          simp [ints_len] at hg82;omega
                        refine t_skip 20 rfl rfl rfl ?_
                        refine t_skip 21 rfl rfl rfl ?_
                        refine t_skip 22 rfl rfl rfl ?_
                        refine t_skip 23 rfl rfl rfl ?_
                        refine t_skip 24 rfl rfl rfl ?_
                        refine t_skip 25 rfl rfl rfl ?_
                        refine t_skip 26 rfl rfl rfl ?_
                        refine t_skip 27 rfl rfl rfl ?_
                        refine t_skip 28 rfl rfl rfl ?_
                        refine t_old 29 rfl rfl rfl (L_pick rfl rfl) ?_
                        refine T_done (by kernel_rfl) ?_
                        refine G_cond rfl (fun hc92=>?_) (fun hc92=>?_)
                        · refine G_seq ?_
                          refine G_region' (L:=[0]) rfl ?_
                          refine xas ?_
                          refine EOps_nil ?_
                          refine G_ret ?_
                          refine⟨_,[],rfl,rfl,bool_eq ?_,rfl⟩
                          first
                            | rw [hf]
                            | rw [ms_no fun p=>hno (p.ok k hk1)]
                            | rw [ms_no fun p=>by have:=us_at p.us hu;simp [this] at hc92]
                            | exact⟨fun h=>ms_mk ⟨hd,hus,by simp at h;unfold blt;rw [hd.bl];exact h,fun j hj=>hall j (by omega)⟩,fun h=>by have:=(ms_ok h).bu;unfold blt at this;rw [hd.bl] at this;simpa using this⟩
                        · exact Bool.noConfusion (hc92:true=false)
                      · refine t_old 20 rfl rfl rfl (l_field rfl fo_31_5) ?_
                        refine t_light 21 rfl rfl rfl (L_load rfl (xb0 ty_22)) ?_
                        refine t_old 22 rfl rfl rfl (L_move rfl) ?_
                        refine t_old 23 rfl rfl rfl (L_index rfl rfl (by first|exact i_ro sl_22 ty_3|exact i_sl sl_22 ty_3)) ?_
                        refine t_light 24 rfl rfl rfl (L_load rfl (xb0 ty_3)) ?_
                        refine t_old 25 rfl rfl rfl (l_field rfl fo_31_6) ?_
                        refine t_light 26 rfl rfl rfl (L_load rfl (xb0 ty_3)) ?_
                        refine t_call 27 rfl rfl rfl rfl rfl ca_59 (c_spec_l1In u 0 s.clock) ?_
                        rintro r S ⟨rfl,rfl⟩
                        refine t_old 28 rfl rfl rfl (L_not rfl rfl) ?_
                        refine t_old 29 rfl rfl rfl (L_pick rfl rfl) ?_
                        refine T_done (by kernel_rfl) ?_
                        refine G_cond rfl (fun hc92=>?_) (fun hc92=>?_)
                        · refine G_seq ?_
                          refine G_region' (L:=[0]) rfl ?_
                          refine xas ?_
                          refine EOps_nil ?_
                          refine G_ret ?_
                          refine⟨_,[],rfl,rfl,bool_eq ?_,rfl⟩
                          first
                            | rw [hf]
                            | rw [ms_no fun p=>hno (p.ok k hk1)]
                            | rw [ms_no fun p=>by have:=us_at p.us hu;simp [this] at hc92]
                            | exact⟨fun h=>ms_mk ⟨hd,hus,by simp at h;unfold blt;rw [hd.bl];exact h,fun j hj=>hall j (by omega)⟩,fun h=>by have:=(ms_ok h).bu;unfold blt at this;rw [hd.bl] at this;simpa using this⟩
                        · have hxv : areVals x = true := by simpa using hg70
                          have hxl2:x.length=s.head.length:=by simp [ints_len] at hg82;omega
                          have huk:isIn u 0 s.clock=true:=by simpa using hc92
                          refine G_skip ?_
                          refine G_seq ?_
                          refine G_region' (L:=[0,1,2]) rfl ?_
                          refine x_pure rfl rfl rfl (L_build rfl bd_72 rfl rfl) ?_
                          refine x_alloc rfl rfl rfl rfl za_72 ?_
                          refine EOps_go rfl rfl (EOp_store rfl rfl rfl (xb1 ty_72) ?_)
                          refine EOps_nil ?_
                          refine G_seq ?_
                          refine G_seq ?_
                          refine G_region' (L:=[0,1,2,3,4]) rfl ?_
                          refine x_pure rfl rfl rfl (l_field rfl fo_31_4) ?_
                          refine x_light rfl rfl rfl (L_load rfl (xb0 ty_25)) ?_
                          refine xmv ?_
                          refine x_pure rfl rfl rfl (L_index rfl rfl (by first|exact i_ro sl_25 ty_4|exact i_sl sl_25 ty_4)) ?_
                          refine x_light rfl rfl rfl (L_load rfl (xb0 ty_4)) ?_
                          refine EOps_nil ?_
                          refine G_cond rfl (fun hc98=>?_) (fun hc98=>?_)
                          · have hb1 : b = true := by simpa using hc98
                            subst hb1
                            have hst:bltN s.built (k+1)=bltN s.built k++[(k:Int)]:=by rw [hst0,if_pos rfl]
                            refine G_seq ?_
                            refine G_region' (L:=[0,1,2]) rfl ?_
                            refine xmv ?_
                            refine x_pure rfl rfl rfl xb2 ?_
                            refine xas ?_
                            refine EOps_nil ?_
                            refine G_seq ?_
                            refine G_seq ?_
                            refine g_tidy_A207_0 [0,1,2,3,4,5,6,57,60,92,98,111,128] ?_
                            refine G_drawT mixed ?_
                            refine t_old 0 rfl rfl rfl (l_field rfl fo_31_3) ?_
                            refine t_light 1 rfl rfl rfl (L_load rfl (xb0 ty_29)) ?_
                            refine t_old 2 rfl rfl rfl (L_move rfl) ?_
                            refine t_old 3 rfl rfl rfl (L_index rfl rfl (by first|exact i_ro sl_29 ty_72|exact i_sl sl_29 ty_72)) ?_
                            refine t_old 4 rfl rfl rfl (l_field rfl fo_72_2) ?_
                            refine t_light 5 rfl rfl rfl (L_load rfl (xb0 ty_3)) ?_
                            refine t_old 6 rfl rfl rfl (l_field rfl fo_31_2) ?_
                            refine t_light 7 rfl rfl rfl (L_load rfl (xb0 ty_22)) ?_
                            refine t_old 8 rfl rfl rfl (l_len rfl sl_22) ?_
                            refine t_call 9 rfl rfl rfl rfl rfl ca_59 (c_spec_l1In ma 0 s.hist.length) ?_
                            rintro r S ⟨rfl,rfl⟩
                            refine t_old 10 rfl rfl rfl (L_not rfl rfl) ?_
                            refine T_done (by kernel_rfl) ?_
                            refine G_cond rfl (fun hc111=>?_) (fun hc111=>?_)
                            · have hno : ¬ okK s k = true := fun e => by
                                rw [hok] at e
                                simp only [okM,Bool.and_eq_true,Bool.or_eq_true,decide_eq_true_eq] at e
                                simp [isIn] at hc111 e
                                omega
                              refine G_seq ?_
                              refine G_region' (L:=[0]) rfl ?_
                              refine xas ?_
                              refine EOps_nil ?_
                              refine G_ret ?_
                              refine⟨_,[],rfl,rfl,bool_eq ?_,rfl⟩
                              first
                                | rw [hf]
                                | rw [ms_no fun p=>hno (p.ok k hk1)]
                                | rw [ms_no fun p=>by have:=us_at p.us hu;simp [this] at hc92]
                                | exact⟨fun h=>ms_mk ⟨hd,hus,by simp at h;unfold blt;rw [hd.bl];exact h,fun j hj=>hall j (by omega)⟩,fun h=>by have:=(ms_ok h).bu;unfold blt at this;rw [hd.bl] at this;simpa using this⟩
                            · have ha0 : 0 ≤ ma ∧ ma ≤ s.hist.length := by simp [isIn] at hc111; omega
                              obtain⟨na,rfl⟩:∃ na:Nat,ma=na:=⟨ma.toNat,by omega⟩
                              have hwt:wantM s true x ⟨mc,mt,(na:Int)⟩=alM (newMp s.head x) (s.hist.take na):=by rw [wantM,if_pos rfl];rfl
                              refine G_skip ?_
                              refine g_tidy_A207_0 [0,1,2,3,4,5,6,57,60,92,98,111,128] ?_
                              refine G_drawT mixed ?_
                              refine t_light 0 rfl rfl rfl (L_load rfl (xb0 ty_31)) ?_
                              refine t_old 1 rfl rfl rfl (L_move rfl) ?_
                              refine t_old 2 rfl rfl rfl (l_field rfl fo_31_3) ?_
                              refine t_light 3 rfl rfl rfl (L_load rfl (xb0 ty_29)) ?_
                              refine t_old 4 rfl rfl rfl (L_move rfl) ?_
                              refine t_old 5 rfl rfl rfl (L_index rfl rfl (by first|exact i_ro sl_29 ty_72|exact i_sl sl_29 ty_72)) ?_
                              refine t_old 6 rfl rfl rfl (l_field rfl fo_72_2) ?_
                              refine t_light 7 rfl rfl rfl (L_load rfl (xb0 ty_3)) ?_
                              refine t_call 8 rfl rfl rfl rfl rfl ca_112 (c_spec_l13Fresh s k na x hz0 hx hxbd (by omega)) ?_
                              rintro r S ⟨rfl,rfl⟩
                              generalize alM (newMp s.head x) (s.hist.take na)=W at *
                              have hEM:=c_spec_EqualMaps ⟨mc,mt,(na:Int)⟩ W
                              refine t_turn 9 rfl rfl (EOp_store rfl rfl rfl (xb1 ty_72) ?_)
                              refine T_done (by kernel_rfl) ?_
                              refine G_seq ?_
                              first
                                | (refine G_ghostB 1 0 3 1 rfl rfl (by decide) ?_
                                   refine G_ghostB 1 1 3 1 rfl rfl (by decide) ?_
                                   refine G_ghostB 1 2 157 2 rfl rfl (by decide) ?_
                                   refine G_ghostB 1 3 3 1 rfl rfl (by decide) ?_
                                   have hwt:wantM s false x ⟨mc,mt,ma⟩=mp0:=by rw [wantM,if_neg (by decide)]
                                   have hEM:=c_spec_EqualMaps ⟨mc,mt,ma⟩ mp0)
                                | skip
                              refine g_tidy_A207_0 [0,1,2,3,4,5,6,57,60,92,98,111,128] ?_
                              refine G_drawT mixed ?_
                              refine t_old 0 rfl rfl rfl (l_field rfl fo_31_3) ?_
                              refine t_light 1 rfl rfl rfl (L_load rfl (xb0 ty_29)) ?_
                              refine t_old 2 rfl rfl rfl (L_move rfl) ?_
                              refine t_old 3 rfl rfl rfl (L_index rfl rfl (by first|exact i_ro sl_29 ty_72|exact i_sl sl_29 ty_72)) ?_
                              refine t_light 4 rfl rfl rfl (L_load rfl (xb0 ty_72)) ?_
                              refine t_light 5 rfl rfl rfl (L_load rfl (xb0 ty_72)) ?_
                              refine t_call 6 rfl rfl rfl rfl rfl ca_49 (hEM) ?_
                              rintro r S ⟨rfl,rfl⟩
                              refine t_old 7 rfl rfl rfl (L_not rfl rfl) ?_
                              refine T_done (by kernel_rfl) ?_
                              refine G_cond rfl (fun hc128=>?_) (fun hc128=>?_)
                              · have hno : ¬ okK s k = true := fun e => by
                                  rw [hok] at e
                                  simp only [okM,Bool.and_eq_true,Bool.or_eq_true,decide_eq_true_eq] at e
                                  have e2:=e.2
                                  rw [hwt] at e2
                                  rw [e2] at hc128
                                  simp at hc128
                                refine G_seq ?_
                                refine G_region' (L:=[0]) rfl ?_
                                refine xas ?_
                                refine EOps_nil ?_
                                refine G_ret ?_
                                refine⟨_,[],rfl,rfl,bool_eq ?_,rfl⟩
                                first
                                  | rw [hf]
                                  | rw [ms_no fun p=>hno (p.ok k hk1)]
                                  | rw [ms_no fun p=>by have:=us_at p.us hu;simp [this] at hc92]
                                  | exact⟨fun h=>ms_mk ⟨hd,hus,by simp at h;unfold blt;rw [hd.bl];exact h,fun j hj=>hall j (by omega)⟩,fun h=>by have:=(ms_ok h).bu;unfold blt at this;rw [hd.bl] at this;simpa using this⟩
                              · have hyes : okK s k = true := by
                                  have e2:=by simpa using hc128
                                  rw [hok]
                                  simp only [okM,Bool.and_eq_true,Bool.or_eq_true,decide_eq_true_eq]
                                  rw [hwt]
                                  first
                                    | exact⟨⟨⟨hxv,hxl2⟩,.inl rfl⟩,e2⟩
                                    | exact⟨⟨⟨hxv,hxl2⟩,.inr ha0⟩,e2⟩
                                refine G_skip ?_
                                refine G_region' (L:=[0,1,2]) rfl ?_
                                refine xmv ?_
                                refine x_pure rfl rfl rfl xb2 ?_
                                refine xas ?_
                                refine EOps_nil ?_
                                refine⟨[0],rfl,k+1,?_,?_,rfl,⟨.inr rfl,.inr (int_eq (by rw [hst]<;>simp)),.inl rfl,trivial⟩,⟨.inr rfl,.inr rfl,.inr rfl,.inr rfl,trivial⟩⟩
                                · first|omega|(dsimp only;omega)|(simp;omega)
                                · exact ⟨by omega, fun j hj => by
                                    rcases Nat.lt_or_ge j k with h'|h'
                                    · exact hall j h'
                                    · obtain rfl : j = k := by omega
                                      exact hyes,fun j u' hj hu'=>by
                                    rcases Nat.lt_or_ge j k with h'|h'
                                    · exact huall j u' h' hu'
                                    · obtain rfl : j = k := by omega
                                      rw [hu] at hu'
                                      cases hu'
                                      exact huk⟩
                          · have hb0 : b = false := by simpa using hc98
                            subst hb0
                            have hst:bltN s.built (k+1)=bltN s.built k:=by rw [hst0,if_neg (by decide)]
                            refine G_skip ?_
                            refine G_seq ?_
                            first
                              | (refine G_ghostB 1 0 3 1 rfl rfl (by decide) ?_
                                 refine G_ghostB 1 1 3 1 rfl rfl (by decide) ?_
                                 refine G_ghostB 1 2 157 2 rfl rfl (by decide) ?_
                                 refine G_ghostB 1 3 3 1 rfl rfl (by decide) ?_
                                 have hwt:wantM s false x ⟨mc,mt,ma⟩=mp0:=by rw [wantM,if_neg (by decide)]
                                 have hEM:=c_spec_EqualMaps ⟨mc,mt,ma⟩ mp0)
                              | skip
                            refine g_tidy_A207_0 [0,1,2,3,4,5,6,57,60,92,98,111,128] ?_
                            refine G_drawT mixed ?_
                            refine t_old 0 rfl rfl rfl (l_field rfl fo_31_3) ?_
                            refine t_light 1 rfl rfl rfl (L_load rfl (xb0 ty_29)) ?_
                            refine t_old 2 rfl rfl rfl (L_move rfl) ?_
                            refine t_old 3 rfl rfl rfl (L_index rfl rfl (by first|exact i_ro sl_29 ty_72|exact i_sl sl_29 ty_72)) ?_
                            refine t_light 4 rfl rfl rfl (L_load rfl (xb0 ty_72)) ?_
                            refine t_light 5 rfl rfl rfl (L_load rfl (xb0 ty_72)) ?_
                            refine t_call 6 rfl rfl rfl rfl rfl ca_49 (hEM) ?_
                            rintro r S ⟨rfl,rfl⟩
                            refine t_old 7 rfl rfl rfl (L_not rfl rfl) ?_
                            refine T_done (by kernel_rfl) ?_
                            refine G_cond rfl (fun hc128=>?_) (fun hc128=>?_)
                            · have hno : ¬ okK s k = true := fun e => by
                                rw [hok] at e
                                simp only [okM,Bool.and_eq_true,Bool.or_eq_true,decide_eq_true_eq] at e
                                have e2:=e.2
                                rw [hwt] at e2
                                rw [e2] at hc128
                                simp at hc128
                              refine G_seq ?_
                              refine G_region' (L:=[0]) rfl ?_
                              refine xas ?_
                              refine EOps_nil ?_
                              refine G_ret ?_
                              refine⟨_,[],rfl,rfl,bool_eq ?_,rfl⟩
                              first
                                | rw [hf]
                                | rw [ms_no fun p=>hno (p.ok k hk1)]
                                | rw [ms_no fun p=>by have:=us_at p.us hu;simp [this] at hc92]
                                | exact⟨fun h=>ms_mk ⟨hd,hus,by simp at h;unfold blt;rw [hd.bl];exact h,fun j hj=>hall j (by omega)⟩,fun h=>by have:=(ms_ok h).bu;unfold blt at this;rw [hd.bl] at this;simpa using this⟩
                            · have hyes : okK s k = true := by
                                have e2:=by simpa using hc128
                                rw [hok]
                                simp only [okM,Bool.and_eq_true,Bool.or_eq_true,decide_eq_true_eq]
                                rw [hwt]
                                first
                                  | exact⟨⟨⟨hxv,hxl2⟩,.inl rfl⟩,e2⟩
                                  | exact⟨⟨⟨hxv,hxl2⟩,.inr ha0⟩,e2⟩
                              refine G_skip ?_
                              refine G_region' (L:=[0,1,2]) rfl ?_
                              refine xmv ?_
                              refine x_pure rfl rfl rfl xb2 ?_
                              refine xas ?_
                              refine EOps_nil ?_
                              refine⟨[0],rfl,k+1,?_,?_,rfl,⟨.inr rfl,.inr (int_eq (by rw [hst]<;>simp)),.inl rfl,trivial⟩,⟨.inr rfl,.inr rfl,.inr rfl,.inr rfl,trivial⟩⟩
                              · first|omega|(dsimp only;omega)|(simp;omega)
                              · exact ⟨by omega, fun j hj => by
                                  rcases Nat.lt_or_ge j k with h'|h'
                                  · exact hall j h'
                                  · obtain rfl : j = k := by omega
                                    exact hyes,fun j u' hj hu'=>by
                                  rcases Nat.lt_or_ge j k with h'|h'
                                  · exact huall j u' h' hu'
                                  · obtain rfl : j = k := by omega
                                    rw [hu] at hu'
                                    cases hu'
                                    exact huk⟩
                  · have hk2 : k = s.tails.length := by simp at hc60; omega
                    subst hk2
                    have hus:usIn s=true:=us_of fun j u hju=>huall j u (by have:=hd.ul;have:=lt_of_atT hju;omega) hju
                    refine G_exit ?_
                    refine G_seq ?_
                    refine G_region' (L:=[0,1,2,3,4]) rfl ?_
                    refine xmv ?_
                    refine x_pure rfl rfl rfl (l_field rfl fo_31_7) ?_
                    refine x_light rfl rfl rfl (L_load rfl (xb0 ty_3)) ?_
                    refine x_pure rfl rfl rfl (L_bin rfl rfl rfl rfl) ?_
                    refine xas ?_
                    refine EOps_nil ?_
                    refine G_ret ?_
                    refine⟨_,[],rfl,rfl,bool_eq ?_,rfl⟩
                    first
                      | rw [hf]
                      | rw [ms_no fun p=>hno (p.ok k hk1)]
                      | rw [ms_no fun p=>by have:=us_at p.us hu;simp [this] at hc92]
                      | exact⟨fun h=>ms_mk ⟨hd,hus,by simp at h;unfold blt;rw [hd.bl];exact h,fun j hj=>hall j (by omega)⟩,fun h=>by have:=(ms_ok h).bu;unfold blt at this;rw [hd.bl] at this;simpa using this⟩

end Go.Proofs.YthlhmpknngidmaaGreat.E
