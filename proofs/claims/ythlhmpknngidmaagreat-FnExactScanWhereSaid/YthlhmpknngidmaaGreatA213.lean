/- Walks through functions, by program out of the session's annotations. -/
import Derived.Test.YthlhmpknngidmaaGreatA211
import Derived.Test.YthlhmpknngidmaaGreatA42
import Derived.Test.YthlhmpknngidmaaGreatA51
namespace Go.Proofs.YthlhmpknngidmaaGreat.E
open Go Go.RowKit Go.Proofs
set_option linter.unusedVariables false
set_option linter.unusedSimpArgs false

def trips (xs:List (Int × Int × Int)):List (List T):=xs.map fun x=>[.sc (.int .i64 x.1),.sc (.int .i64 x.2.1),.sc (.int .i64 x.2.2)]
theorem trips_len (xs:List (Int × Int × Int)):(trips xs).length=xs.length:=by simp [trips]
theorem trips_at {xs:List (Int × Int × Int)} {k:Nat} {x:Int × Int × Int} (h:xs[k]? = some x):(trips xs)[k]? = some [.sc (.int .i64 x.1),.sc (.int .i64 x.2.1),.sc (.int .i64 x.2.2)]:=by simp [trips,h]
def scN (xs : List Int) (r : Int × Int) : Nat → List Int
 | 0=>[]
 | k+1=>if inR r (xs.getD k 0)=true then scN xs r k++[(k:Int)] else scN xs r k
theorem scN_len (xs : List Int) (r : Int × Int) : ∀ k, (scN xs r k).length ≤ k
 | 0=>Nat.le_refl _
 | k + 1 => by
  have:=scN_len xs r k
  rw [scN]
  split
  ·rw [List.length_append,List.length_singleton];omega
  ·omega
theorem scN_at {xs:List Int} {r:Int × Int} {k:Nat} {x:Int} (hx:xs[k]? = some x):scN xs r (k+1)=if inR r x=true then scN xs r k++[(k:Int)] else scN xs r k:=by rw [scN,getD_of hx]
def isTl (s:MSt) (t:Int):Bool:=isIn t 0 ((s.tails.length:Int) - 1)
def okF (s:MSt) (f:Int × Int × Int):Bool:=isTl s f.1 && isRng f.2
/-- Filters and a projection that are valid. -/
def whK (s:MSt) (fs:List (Int × Int × Int)) (p:List Int):Bool:=decide (fs.length+p.length≤4) && fs.all (okF s) && p.all (isTl s)
def cellT (s:MSt) (t:Int) (i:Nat):Int:=(s.tails.getD t.toNat []).getD i 0
def passB (s:MSt) (fs:List (Int × Int × Int)) (i:Nat):Bool:=fs.all fun f=>inR f.2 (cellT s f.1 i)
def tupT (s:MSt) (p:List Int) (i:Nat):List Int:=p.map fun t=>cellT s t i
def swL (s:MSt) (fs:List (Int × Int × Int)) (p:List Int) (q:List Int):List (List Int):=(q.filter fun i=>passB s fs i.toNat).map fun i=>tupT s p i.toNat
theorem swL_app (s : MSt) (fs : List (Int × Int × Int)) (p q : List Int) (i : Int) : swL s fs p (q ++ [i]) = if passB s fs i.toNat = true then swL s fs p q ++ [tupT s p i.toNat] else swL s fs p q := by
 unfold swL
 rw [List.filter_append,List.map_append]
 split
 ·rename_i h
  simp [h]
 ·rename_i h
  simp [h]
theorem swL_len (s : MSt) (fs : List (Int × Int × Int)) (p q : List Int) : (swL s fs p q).length ≤ q.length := by
 unfold swL
 rw [List.length_map]
 exact List.length_filter_le _ _
theorem tupT_len (s:MSt) (p:List Int) (i:Nat):(tupT s p i).length=p.length:=by simp [tupT]
theorem tupT_step {s : MSt} {p : List Int} {i k : Nat} {t : Int} (h : p[k]? = some t) : tupT s (p.take (k + 1)) i = tupT s (p.take k) i ++ [cellT s t i] := by
 rw [tupT,tupT,List.take_add_one,h,List.map_append];rfl
theorem all_step {α : Type} {f : α → Bool} {l : List α} {k : Nat} {x : α} (h : l[k]? = some x) : (l.take (k + 1)).all f = ((l.take k).all f && f x) := by
 rw [List.take_add_one,h,List.all_append];simp
theorem all_no {α : Type} {f : α → Bool} {l : List α} {k : Nat} {x : α} (h : l[k]? = some x) (hf : f x = false) : l.all f = false := by
 rw [List.all_eq_false];exact⟨x,List.mem_of_getElem? h,by simp [hf]⟩
theorem cell_at {s : MSt} (hs : isMS s = true) {t : Int} (ht : isTl s t = true) {i : Nat} (hi : i < s.head.length) : ∃ l v, s.tails[t.toNat]? = some l ∧ l[i]? = some v ∧ cellT s t i = v ∧ 0 ≤ t := by
 have hm:=ms_ok hs
 simp only [isTl,isIn,Bool.and_eq_true,decide_eq_true_eq] at ht
 have htl:t.toNat<s.tails.length:=by have:=hm.hd.n1;omega
 have hok:=hm.ok _ htl
 obtain⟨l,hl⟩:=at_lt htl
 have hg:s.tails.getD t.toNat []=l:=by rw [List.getD_eq_getElem?_getD,hl];rfl
 simp only [okK,okM,Bool.and_eq_true,decide_eq_true_eq] at hok
 rw [hg] at hok
 have hll:=hok.1.1.2
 obtain⟨v,hv⟩:=at_lt (l:=l) (k:=i) (by omega)
 exact⟨l,v,hl,hv,by rw [cellT,hg,getD_of hv],ht.1⟩

set_option maxRecDepth 20000 in
set_option maxHeartbeats 2000000 in
theorem c_impl_isTail (s : MSt) (x : Int) : EFn Tryz.prog 65 [.agg (msC s), .c (.sc (.int .i64 x))] [] (fun r S => r = .c (.sc (.bool (isTl s x))) ∧ S = []) := by
 refine E_fn Tryz.func65 rfl (Nat.le_of_ble_eq_true rfl) ?_
 have hnl:=nest_len s.tails
 refine E_seq ?_
 refine E_region' (L:=[0,1]) rfl ?_
 refine x_box rfl rfl rfl rfl rfl ?_
 refine xas ?_
 refine EOps_nil ?_
 refine E_seq ?_
 refine E_region' (L:=[0,1,2,3,4,5,6,7,8,9]) rfl ?_
 refine xmv ?_
 refine x_pure rfl rfl rfl (L_bin rfl rfl rfl rfl) ?_
 refine xmv ?_
 refine EOps_split 7 (b:=_) rfl (fun hg7=>?_) (fun hg7=>?_)
 ·refine xmv ?_
  refine x_pure rfl rfl rfl (l_field rfl fo_31_1) ?_
  refine x_light rfl rfl rfl (L_load rfl (xb0 ty_23)) ?_
  refine x_pure rfl rfl rfl (l_len rfl sl_23) ?_
  refine x_pure rfl rfl rfl (L_bin rfl rfl rfl rfl) ?_
  refine x_pure rfl rfl rfl (L_pick rfl rfl) ?_
  refine xas ?_
  refine EOps_nil ?_
  refine E_ret ?_
  refine⟨_,[],rfl,rfl,bool_eq ?_,rfl⟩
  simp only [isTl,isIn,Bool.and_eq_true,decide_eq_true_eq]
  first
   | (simp at hg7;simp;omega)
   | (simp at hg7;omega)
 ·refine x_skip rfl rfl rfl ?_
  refine x_skip rfl rfl rfl ?_
  refine x_skip rfl rfl rfl ?_
  refine x_skip rfl rfl rfl ?_
  refine x_skip rfl rfl rfl ?_
  refine x_pure rfl rfl rfl (L_pick rfl rfl) ?_
  refine xas ?_
  refine EOps_nil ?_
  refine E_ret ?_
  refine⟨_,[],rfl,rfl,bool_eq ?_,rfl⟩
  simp only [isTl,isIn,Bool.and_eq_true,decide_eq_true_eq]
  first
   | (simp at hg7;simp;omega)
   | (simp at hg7;omega)

set_option maxRecDepth 20000 in
set_option maxHeartbeats 2000000 in
theorem c_impl_isWhere_1 (s : MSt) (x : Int) : EFn Tryz.prog 133 [.c (.sc (.int .i64 x)), .c (.bp 0 0)] [.box (msC s)] (fun r R' => r = .c (.sc (.bool (!isTl s x))) ∧ R' = [.box (msC s)]) := by
 refine E_fnS Tryz.func133 rfl (Nat.le_of_ble_eq_true rfl) ?_
 refine E_seq ?_
 refine E_region' (L:=[0]) rfl ?_
 refine xas ?_
 refine EOps_nil ?_
 refine E_seq ?_
 refine E_region' (L:=[0,1,2,3,4]) rfl ?_
 refine x_light rfl rfl rfl (L_load rfl (xb0 ty_31)) ?_
 refine xmv ?_
 refine x_call rfl rfl rfl rfl rfl ca_65 (c_impl_isTail s x) ?_
 rintro r S ⟨rfl,rfl⟩
 refine x_pure rfl rfl rfl (L_not rfl rfl) ?_
 refine xas ?_
 refine EOps_nil ?_
 refine E_ret ?_
 exact⟨_,rfl,rfl,rfl⟩

set_option maxRecDepth 20000 in
set_option maxHeartbeats 2000000 in
theorem c_impl_isWhere (s : MSt) (fs : List (Int × Int × Int)) (p : List Int) (hf : fs.length ≤ 1048576) (hp : p.length ≤ 1048576) : EFn Tryz.prog 77 [.agg (msC s), .c (.ro (trips fs)), .c (.ro (ints p))] [] (fun r S => r = .c (.sc (.bool (whK s fs p))) ∧ S = []) := by
  refine E_fn Tryz.func77 rfl (Nat.le_of_ble_eq_true rfl) ?_
  refine E_G (n:=0) rfl ?_
  have htl:=trips_len fs
  have hil:=ints_len p
  refine G_seq ?_
  refine G_region' (L:=[0,1]) rfl ?_
  refine x_box rfl rfl rfl rfl rfl ?_
  refine xas ?_
  refine EOps_nil ?_
  refine G_seq ?_
  refine G_seq ?_
  refine G_region' (L:=[0,1,2,3,4,5]) rfl ?_
  refine xmv ?_
  refine x_pure rfl rfl rfl (l_len rfl sl_45) ?_
  refine xmv ?_
  refine x_pure rfl rfl rfl (l_len rfl sl_22) ?_
  refine x_pure rfl rfl rfl xb2 ?_
  refine x_pure rfl rfl rfl (L_bin rfl rfl rfl rfl) ?_
  refine EOps_nil ?_
  refine G_cond rfl (fun hc14=>?_) (fun hc14=>?_)
  · have hw : whK s fs p = false := by
      have h:¬ fs.length+p.length≤4:=by simp at hc14;omega
      simp [whK,h]
    refine G_seq ?_
    refine G_region' (L:=[0]) rfl ?_
    refine xas ?_
    refine EOps_nil ?_
    refine G_ret ?_
    refine⟨_,[],rfl,rfl,bool_eq ?_,rfl⟩
    rw [hw]
  · have h4 : fs.length + p.length ≤ 4 := by simp at hc14; omega
    refine G_skip ?_
    refine G_seq ?_
    refine G_seq ?_
    refine G_region' (L:=[0,1,2]) rfl ?_
    refine xmv ?_
    refine x_pure rfl rfl rfl (l_len rfl sl_45) ?_
    refine xmv ?_
    refine EOps_nil ?_
    refine G_block ?_
    refine g_forD (α:=Nat) [0,1,2,3,14,15,16] (fun k=>[(17,.c (.sc (.int .i64 (k)))),(8,.any)]) (fun k=>[.box (msC s)]) (fun k=>k≤fs.length∧(fs.take k).all (okF s)=true) (fun k=>fs.length - k) (0) ?_ (rfl) ⟨.inr rfl,.inl rfl,trivial⟩ ?_
    · exact⟨Nat.zero_le _,rfl⟩
    rintro k ⟨hk,hall⟩
    refine G_seq ?_
    refine G_region' (L:=[0]) rfl ?_
    refine x_pure rfl rfl rfl (L_bin rfl rfl rfl rfl) ?_
    refine EOps_nil ?_
    refine G_seq ?_
    refine G_cond rfl (fun hc18=>?_) (fun hc18=>?_)
    · have hk1 : k < fs.length := by simpa [trips_len] using hc18
      obtain⟨f,hx⟩:=at_lt hk1
      have hnx:=trips_at hx
      have hst:=all_step (f:=okF s) hx
      refine G_skip ?_
      refine G_seq ?_
      refine G_block ?_
      refine G_seq ?_
      refine G_region' (L:=[0,1,2,3]) rfl ?_
      refine x_pure rfl rfl rfl (L_index rfl rfl (by first|exact i_ro sl_45 ty_104|exact i_sl sl_45 ty_104)) ?_
      refine x_light rfl rfl rfl (L_load rfl (xb0 ty_104)) ?_
      refine x_alloc rfl rfl rfl rfl za_104 ?_
      refine EOps_go rfl rfl (EOp_store rfl rfl rfl (xb1 ty_104) ?_)
      refine EOps_nil ?_
      refine G_seq ?_
      refine g_tidy [0,1,2,3,6,8,14,15,16,17,18,31] ?_
      refine G_region' (L:=[0,1,2,3,4,5,6,7,8,9,10]) rfl ?_
      refine x_light rfl rfl rfl (L_load rfl (xb0 ty_31)) ?_
      refine x_pure rfl rfl rfl (l_field rfl fo_104_0) ?_
      refine x_light rfl rfl rfl (L_load rfl (xb0 ty_3)) ?_
      refine x_call rfl rfl rfl rfl rfl ca_65 (c_impl_isTail s f.1) ?_
      rintro r S ⟨rfl,rfl⟩
      refine x_pure rfl rfl rfl (L_not rfl rfl) ?_
      refine xmv ?_
      refine EOps_split 26 (b:=_) rfl (fun hg26=>?_) (fun hg26=>?_)
      · refine x_skip rfl rfl rfl ?_
        refine x_skip rfl rfl rfl ?_
        refine x_skip rfl rfl rfl ?_
        refine x_skip rfl rfl rfl ?_
        refine x_pure rfl rfl rfl (L_pick rfl rfl) ?_
        refine EOps_nil ?_
        refine G_cond rfl (fun hc31=>?_) (fun hc31=>?_)
        · have ho : okF s f = false := by
            first
              | (have h1 : isTl s f.1 = false := by simpa using hg26
                 simp [okF,h1];done)
              | (have h1 : isRng f.2 = false := by simpa using hc31
                 simp [okF,h1])
          have hw:whK s fs p=false:=by simp [whK,all_no hx ho]
          refine G_seq ?_
          refine G_region' (L:=[0]) rfl ?_
          refine xas ?_
          refine EOps_nil ?_
          refine G_ret ?_
          refine⟨_,[],rfl,rfl,bool_eq ?_,rfl⟩
          rw [hw]
        · exact Bool.noConfusion (hc31:true=false)
      · refine x_pure rfl rfl rfl (l_field rfl fo_104_1) ?_
        refine x_light rfl rfl rfl (L_load rfl (xb0 ty_43)) ?_
        refine x_call rfl rfl rfl rfl rfl ca_85 (c_impl_IsRange f.2) ?_
        rintro r S ⟨rfl,rfl⟩
        refine x_pure rfl rfl rfl (L_not rfl rfl) ?_
        refine x_pure rfl rfl rfl (L_pick rfl rfl) ?_
        refine EOps_nil ?_
        refine G_cond rfl (fun hc31=>?_) (fun hc31=>?_)
        · have ho : okF s f = false := by
            first
              | (have h1 : isTl s f.1 = false := by simpa using hg26
                 simp [okF,h1];done)
              | (have h1 : isRng f.2 = false := by simpa using hc31
                 simp [okF,h1])
          have hw:whK s fs p=false:=by simp [whK,all_no hx ho]
          refine G_seq ?_
          refine G_region' (L:=[0]) rfl ?_
          refine xas ?_
          refine EOps_nil ?_
          refine G_ret ?_
          refine⟨_,[],rfl,rfl,bool_eq ?_,rfl⟩
          rw [hw]
        · have ho : okF s f = true := by
            have h1:isTl s f.1=true:=by simpa using hg26
            have h2:isRng f.2=true:=by simpa using hc31
            simp [okF,h1,h2]
          refine G_skip ?_
          refine G_region' (L:=[0,1]) rfl ?_
          refine x_pure rfl rfl rfl xb2 ?_
          refine xmv ?_
          refine EOps_nil ?_
          refine⟨[0],rfl,k+1,?_,?_,rfl,⟨.inr rfl,.inl rfl,trivial⟩,⟨.inr rfl,.inr rfl,.inr rfl,.inr rfl,.inr rfl,.inr rfl,.inr rfl,trivial⟩⟩
          · first|omega|(dsimp only;omega)|(simp;omega)
          · exact⟨by omega,by rw [hst,hall,ho];rfl⟩
    · have hk2 : fs.length ≤ k := by simpa [trips_len] using hc18
      rw [List.take_of_length_le hk2] at hall
      refine G_exit ?_
      refine G_seq ?_
      refine g_tidy [0,1,2,3,6,8,14,15,16,17,18,31] ?_
      refine G_region' (L:=[0,1,2,3,4]) rfl ?_
      refine xmv ?_
      refine x_pure rfl rfl rfl (L_func rfl rfl) ?_
      refine EOps_go rfl rfl (xe2 rfl rfl rfl ca_86 ((c_slices_ContainsFunc___int_int_ p (fun x=>!isTl s x) 133 [.bp 0 0] [.box (msC s)] ca_133 (fun x _=>c_impl_isWhere_1 s x))) ?_)
      rintro r S ⟨rfl,rfl⟩
      refine x_pure rfl rfl rfl (L_not rfl rfl) ?_
      refine xas ?_
      refine EOps_nil ?_
      refine G_ret ?_
      refine⟨_,[],rfl,rfl,bool_eq ?_,rfl⟩
      simp only [whK,hall,h4,decide_true,Bool.true_and,Bool.not_eq_true']
      rw [List.any_eq_not_all_not]
      simp

set_option maxRecDepth 20000 in
set_option maxHeartbeats 2000000 in
theorem c_spec_l14Fine (s : MSt) (fs : List (Int × Int × Int)) (p : List Int) (hf : fs.length ≤ 1048576) (hp : p.length ≤ 1048576) (hz : msZ s ≤ 1048576) : EFn Tryz.prog 74 [.agg (msC s), .c (.ro (trips fs)), .c (.ro (ints p))] [] (fun r S => r = .c (.sc (.bool (whK s fs p))) ∧ S = []) := by
  refine E_fn Tryz.func74 rfl (Nat.le_of_ble_eq_true rfl) ?_
  have htl:=trips_len fs
  have hil:=ints_len p
  have hnl:=nest_len s.tails
  have hz1:=(mst_le hz).2.1.1
  refine E_seq ?_
  refine E_region' (L:=[0,1]) rfl ?_
  refine x_box rfl rfl rfl rfl rfl ?_
  refine xas ?_
  refine EOps_nil ?_
  refine E_seq ?_
  refine E_seq ?_
  refine E_region' (L:=[0]) rfl ?_
  refine xas ?_
  refine EOps_nil ?_
  refine E_block ?_
  refine e_for (α:=Nat) [0,1,2,3] (fun k=>[(7,.c (.sc (.int .i64 (k))))]) (fun _=>_) (fun k=>k≤fs.length∧(fs.take k).all (okF s)=true) (fun k=>fs.length - k) (0) ?_ (rfl) ⟨.inr rfl,trivial⟩ ?_
  · exact⟨Nat.zero_le _,rfl⟩
  rintro k ⟨hk,hall⟩
  refine E_seq ?_
  refine E_seq ?_
  refine E_region' (L:=[0,1,2,3]) rfl ?_
  refine xmv ?_
  refine xmv ?_
  refine x_pure rfl rfl rfl (l_len rfl sl_45) ?_
  refine x_pure rfl rfl rfl (L_bin rfl rfl rfl rfl) ?_
  refine EOps_nil ?_
  refine E_cond rfl (fun hc12=>?_) (fun hc12=>?_)
  · have hk1 : k < fs.length := by simpa [trips_len] using hc12
    obtain⟨f,hx⟩:=at_lt hk1
    have hnx:=trips_at hx
    have hst:=all_step (f:=okF s) hx
    refine E_skip ?_
    refine E_seq ?_
    refine E_block ?_
    refine E_seq ?_
    refine e_tidy [0,1,2,3,6,7,12,34] ?_
    refine E_drawT mixed ?_
    refine t_old 0 rfl rfl rfl (L_move rfl) ?_
    refine t_old 1 rfl rfl rfl (L_move rfl) ?_
    refine t_old 2 rfl rfl rfl (L_index rfl rfl (by first|exact i_ro sl_45 ty_104|exact i_sl sl_45 ty_104)) ?_
    refine t_old 3 rfl rfl rfl (l_field rfl fo_104_0) ?_
    refine t_light 4 rfl rfl rfl (L_load rfl (xb0 ty_3)) ?_
    refine t_old 5 rfl rfl rfl (l_field rfl fo_31_1) ?_
    refine t_light 6 rfl rfl rfl (L_load rfl (xb0 ty_23)) ?_
    refine t_old 7 rfl rfl rfl (l_len rfl sl_23) ?_
    refine t_old 8 rfl rfl rfl xb5 ?_
    refine t_call 9 rfl rfl rfl rfl rfl ca_59 (c_spec_l1In f.1 0 ((s.tails.length:Int) - 1)) ?_
    rintro r S ⟨rfl,rfl⟩
    refine t_old 10 rfl rfl rfl (L_not rfl rfl) ?_
    refine t_old 11 rfl rfl rfl (L_move rfl) ?_
    refine T_split 26 (b:=_) rfl rfl (fun hg26=>?_) (fun hg26=>?_)
    · refine t_skip 12 rfl rfl rfl ?_
      refine t_skip 13 rfl rfl rfl ?_
      refine t_skip 14 rfl rfl rfl ?_
      refine t_skip 15 rfl rfl rfl ?_
      refine t_skip 16 rfl rfl rfl ?_
      refine t_skip 17 rfl rfl rfl ?_
      refine t_skip 18 rfl rfl rfl ?_
      refine t_old 19 rfl rfl rfl (L_pick rfl rfl) ?_
      refine T_done (by kernel_rfl) ?_
      refine E_cond rfl (fun hc34=>?_) (fun hc34=>?_)
      · have ho : okF s f = false := by
          first
            | (have h1 : isTl s f.1 = false := by simpa [isTl] using hg26
               simp [okF,h1];done)
            | (have h1 : isRng f.2 = false := by simpa using hc34
               simp [okF,h1])
        have hw:whK s fs p=false:=by simp [whK,all_no hx ho]
        refine E_seq ?_
        refine E_region' (L:=[0]) rfl ?_
        refine xas ?_
        refine EOps_nil ?_
        refine E_ret ?_
        refine⟨_,[],rfl,rfl,bool_eq ?_,rfl⟩
        first
          | rw [hw]
          | (simp [whK,hall,hallp];omega)
      · exact Bool.noConfusion (hc34:true=false)
    · refine t_old 12 rfl rfl rfl (L_move rfl) ?_
      refine t_old 13 rfl rfl rfl (L_move rfl) ?_
      refine t_old 14 rfl rfl rfl (L_index rfl rfl (by first|exact i_ro sl_45 ty_104|exact i_sl sl_45 ty_104)) ?_
      refine t_old 15 rfl rfl rfl (l_field rfl fo_104_1) ?_
      refine t_light 16 rfl rfl rfl (L_load rfl (xb0 ty_43)) ?_
      refine t_call 17 rfl rfl rfl rfl rfl ca_82 (c_spec_IsRange f.2) ?_
      rintro r S ⟨rfl,rfl⟩
      refine t_old 18 rfl rfl rfl (L_not rfl rfl) ?_
      refine t_old 19 rfl rfl rfl (L_pick rfl rfl) ?_
      refine T_done (by kernel_rfl) ?_
      refine E_cond rfl (fun hc34=>?_) (fun hc34=>?_)
      · have ho : okF s f = false := by
          first
            | (have h1 : isTl s f.1 = false := by simpa [isTl] using hg26
               simp [okF,h1];done)
            | (have h1 : isRng f.2 = false := by simpa using hc34
               simp [okF,h1])
        have hw:whK s fs p=false:=by simp [whK,all_no hx ho]
        refine E_seq ?_
        refine E_region' (L:=[0]) rfl ?_
        refine xas ?_
        refine EOps_nil ?_
        refine E_ret ?_
        refine⟨_,[],rfl,rfl,bool_eq ?_,rfl⟩
        first
          | rw [hw]
          | (simp [whK,hall,hallp];omega)
      · have ho : okF s f = true := by
          have h1:isTl s f.1=true:=by simpa [isTl] using hg26
          have h2:isRng f.2=true:=by simpa using hc34
          simp [okF,h1,h2]
        refine E_skip ?_
        refine E_region' (L:=[0,1,2]) rfl ?_
        refine xmv ?_
        refine x_pure rfl rfl rfl xb2 ?_
        refine xas ?_
        refine EOps_nil ?_
        refine⟨k+1,?_,?_,rfl,⟨.inr rfl,trivial⟩,⟨.inr rfl,.inr rfl,.inr rfl,.inr rfl,trivial⟩⟩
        · first|omega|(dsimp only;omega)|(simp;omega)
        · exact⟨by omega,by rw [hst,hall,ho];rfl⟩
  · have hk2 : fs.length ≤ k := by simpa [trips_len] using hc12
    rw [List.take_of_length_le hk2] at hall
    refine E_exit ?_
    refine E_seq ?_
    refine E_seq ?_
    refine E_region' (L:=[0]) rfl ?_
    refine xas ?_
    refine EOps_nil ?_
    refine E_block ?_
    refine e_for (α:=Nat) [0,1,2,3,7,12,34] (fun j=>[(8,.c (.sc (.int .i64 (j))))]) (fun _=>_) (fun j=>j≤p.length∧(p.take j).all (isTl s)=true) (fun j=>p.length - j) (0) ?_ (rfl) ⟨.inr rfl,trivial⟩ ?_
    · exact⟨Nat.zero_le _,rfl⟩
    rintro j ⟨hj,hallp⟩
    refine E_seq ?_
    refine E_seq ?_
    refine E_region' (L:=[0,1,2,3]) rfl ?_
    refine xmv ?_
    refine xmv ?_
    refine x_pure rfl rfl rfl (l_len rfl sl_22) ?_
    refine x_pure rfl rfl rfl (L_bin rfl rfl rfl rfl) ?_
    refine EOps_nil ?_
    refine E_cond rfl (fun hc38=>?_) (fun hc38=>?_)
    · have hj1 : j < p.length := by simpa [ints_len] using hc38
      obtain⟨t,ht⟩:=at_lt hj1
      have hnt:=ints_at ht
      have hstp:=all_step (f:=isTl s) ht
      refine E_skip ?_
      refine E_seq ?_
      refine E_block ?_
      refine E_seq ?_
      refine e_tidy [0,1,2,3,6,7,8,12,34,38,50] ?_
      refine E_drawT mixed ?_
      refine t_old 0 rfl rfl rfl (L_move rfl) ?_
      refine t_old 1 rfl rfl rfl (L_move rfl) ?_
      refine t_old 2 rfl rfl rfl (L_index rfl rfl (by first|exact i_ro sl_22 ty_3|exact i_sl sl_22 ty_3)) ?_
      refine t_light 3 rfl rfl rfl (L_load rfl (xb0 ty_3)) ?_
      refine t_old 4 rfl rfl rfl (l_field rfl fo_31_1) ?_
      refine t_light 5 rfl rfl rfl (L_load rfl (xb0 ty_23)) ?_
      refine t_old 6 rfl rfl rfl (l_len rfl sl_23) ?_
      refine t_old 7 rfl rfl rfl xb5 ?_
      refine t_call 8 rfl rfl rfl rfl rfl ca_59 (c_spec_l1In t 0 ((s.tails.length:Int) - 1)) ?_
      rintro r S ⟨rfl,rfl⟩
      refine t_old 9 rfl rfl rfl (L_not rfl rfl) ?_
      refine T_done (by kernel_rfl) ?_
      refine E_cond rfl (fun hc50=>?_) (fun hc50=>?_)
      · have ho : isTl s t = false := by simpa [isTl] using hc50
        have hw:whK s fs p=false:=by simp [whK,all_no ht ho]
        refine E_seq ?_
        refine E_region' (L:=[0]) rfl ?_
        refine xas ?_
        refine EOps_nil ?_
        refine E_ret ?_
        refine⟨_,[],rfl,rfl,bool_eq ?_,rfl⟩
        first
          | rw [hw]
          | (simp [whK,hall,hallp];omega)
      · have ho : isTl s t = true := by simpa [isTl] using hc50
        refine E_skip ?_
        refine E_region' (L:=[0,1,2]) rfl ?_
        refine xmv ?_
        refine x_pure rfl rfl rfl xb2 ?_
        refine xas ?_
        refine EOps_nil ?_
        refine⟨j+1,?_,?_,rfl,⟨.inr rfl,trivial⟩,⟨.inr rfl,.inr rfl,.inr rfl,.inr rfl,.inr rfl,.inr rfl,.inr rfl,trivial⟩⟩
        · first|omega|(dsimp only;omega)|(simp;omega)
        · exact⟨by omega,by rw [hstp,hallp,ho];rfl⟩
    · have hj2 : p.length ≤ j := by simpa [ints_len] using hc38
      rw [List.take_of_length_le hj2] at hallp
      refine E_exit ?_
      refine E_seq ?_
      refine E_region' (L:=[0,1,2,3,4,5,6]) rfl ?_
      refine xmv ?_
      refine x_pure rfl rfl rfl (l_len rfl sl_45) ?_
      refine xmv ?_
      refine x_pure rfl rfl rfl (l_len rfl sl_22) ?_
      refine x_pure rfl rfl rfl xb2 ?_
      refine x_pure rfl rfl rfl (L_bin rfl rfl rfl rfl) ?_
      refine xas ?_
      refine EOps_nil ?_
      refine E_ret ?_
      refine⟨_,[],rfl,rfl,bool_eq ?_,rfl⟩
      first
        | rw [hw]
        | (simp [whK,hall,hallp];omega)

set_option maxRecDepth 20000 in
set_option maxHeartbeats 2000000 in
theorem c_impl_ScanRange (xs : List Int) (r : Int × Int) (hx : xs.length ≤ 1048576) : EFn Tryz.prog 78 [.c (.ro (ints xs)), .agg [.sc (.int .i64 r.1), .sc (.int .i64 r.2)]] [] (fun y S => y = .c (.sl 0 0 (scN xs r xs.length).length (scN xs r xs.length).length) ∧ S = [.row 3 1 (ints (scN xs r xs.length))]) := by
 refine E_fn Tryz.func78 rfl (Nat.le_of_ble_eq_true rfl) ?_
 refine E_seq ?_
 refine E_region' (L:=[0,1]) rfl ?_
 refine x_box rfl rfl rfl rfl rfl ?_
 refine xas ?_
 refine EOps_nil ?_
 refine E_seq ?_
 refine E_region' (L:=[0,1]) rfl ?_
 refine EOps_go rfl rfl (Heavy.op (H_bslice rfl rfl (by decide) sl_22 ty_3 za_3 ⟨rfl,by decide⟩ (by decide) rfl rfl rfl rfl ?_))
 refine xas ?_
 refine EOps_nil ?_
 refine E_seq ?_
 refine E_seq ?_
 refine E_region' (L:=[0,1,2]) rfl ?_
 refine xmv ?_
 refine x_pure rfl rfl rfl (l_len rfl sl_22) ?_
 refine xmv ?_
 refine EOps_nil ?_
 refine E_block ?_
 refine e_for (α:=Nat) [0,1,3,4,9,10] (fun k=>[(11,.c (.sc (.int .i64 ((k:Int))))),(5,.c (.sl 1 0 (scN xs r k).length (scN xs r k).length)),(6,.any),(7,.any)]) (fun k=>[.box [.sc (.int .i64 r.1),.sc (.int .i64 r.2)],.row 3 1 (ints (scN xs r k))]) (fun k=>k≤xs.length) (fun k=>xs.length - k) (0) ?_ (rfl) ⟨.inr rfl,.inr rfl,.inl rfl,.inl rfl,trivial⟩ ?_
 ·simp
 rintro k hk
 have hpl:=scN_len xs r k
 refine E_seq ?_
 refine E_region' (L:=[0]) rfl ?_
 refine x_pure rfl rfl rfl (L_bin rfl rfl rfl rfl) ?_
 refine EOps_nil ?_
 refine E_seq ?_
 refine E_cond rfl (fun hc12=>?_) (fun hc12=>?_)
 ·have hc12' : k < (xs).length := by simpa [ints_len, bools_len, pairs_len, quads_len, quints_len] using hc12
  obtain⟨x,hx1⟩:∃ x,(xs)[k]? = some x:=⟨_,List.getElem?_eq_getElem hc12'⟩
  have hst0:=scN_at (r:=r) hx1
  refine E_skip ?_
  refine E_seq ?_
  refine E_block ?_
  refine E_seq ?_
  refine E_region' (L:=[0,1,2,3,4]) rfl ?_
  refine xmv ?_
  refine x_pure rfl rfl rfl (L_index rfl rfl (by first|exact i_ro sl_22 ty_3|exact i_sl sl_22 ty_3)) ?_
  refine x_light rfl rfl rfl (L_load rfl (xb0 ty_3)) ?_
  refine xas ?_
  refine xas ?_
  refine EOps_nil ?_
  refine E_seq ?_
  refine e_tidy [0,1,3,4,5,6,7,9,10,11,12,18] ?_
  refine E_region' (L:=[0,1,2]) rfl ?_
  refine x_light rfl rfl rfl (L_load rfl (xb0 ty_43)) ?_
  refine xmv ?_
  refine x_call rfl rfl rfl rfl rfl ca_134 (c_impl_InRange r x) ?_
  rintro r S ⟨rfl,rfl⟩
  refine EOps_nil ?_
  refine E_cond rfl (fun hc18=>?_) (fun hc18=>?_)
  ·have hst : scN xs r (k + 1) = scN xs r k ++ [(k : Int)] := by rw [hst0, if_pos hc18]
   refine E_region' (L:=[0,1,2,3,4]) rfl ?_
   refine xmv ?_
   refine xmv ?_
   refine EOps_go rfl rfl (Heavy.op (H_bslice_ro rfl rfl (by decide) sl_22 ty_3 za_3 ⟨rfl,by decide⟩ (by decide) rfl rfl rfl rfl ?_))
   refine EOps_go rfl rfl (EOp_append (news:=ints [(k:Int)]) rfl rfl (by decide) sl_22 ty_3 by_3 za_3 ⟨rfl,by decide⟩ rfl (by first|rfl|assumption) xb6 xb7 xb8 xb9 ?_)
   refine xas ?_
   refine EOps_nil ?_
   refine E_region' (L:=[0,1]) rfl ?_
   refine x_pure rfl rfl rfl xb2 ?_
   refine xmv ?_
   refine EOps_nil ?_
   refine⟨k+1,?_,?_,(by rw [hst]<;>first|rfl|(rw [← ints_app];rfl)),⟨.inr rfl,.inr ((by rw [hst]<;>first|rfl|(rw [← ints_lenApp];rfl))),.inl rfl,.inl rfl,trivial⟩,⟨.inr rfl,.inr rfl,.inr rfl,.inr rfl,.inr rfl,.inr rfl,trivial⟩⟩
   ·first|omega|(dsimp only;omega)|(simp;omega)
   ·first|trivial|omega|(dsimp only;omega)|(simp;omega)
  ·have hst : scN xs r (k + 1) = scN xs r k := by rw [hst0, if_neg (by simp [hc18])]
   refine E_skip ?_
   refine E_region' (L:=[0,1]) rfl ?_
   refine x_pure rfl rfl rfl xb2 ?_
   refine xmv ?_
   refine EOps_nil ?_
   refine⟨k+1,?_,?_,(by rw [hst]<;>first|rfl|(rw [← ints_app];rfl)),⟨.inr rfl,.inr ((by rw [hst]<;>first|rfl|(rw [← ints_lenApp];rfl))),.inl rfl,.inl rfl,trivial⟩,⟨.inr rfl,.inr rfl,.inr rfl,.inr rfl,.inr rfl,.inr rfl,trivial⟩⟩
   ·first|omega|(dsimp only;omega)|(simp;omega)
   ·first|trivial|omega|(dsimp only;omega)|(simp;omega)
 ·have hk2 : xs.length ≤ k := by simpa [ints_len] using hc12
  have hke:k=xs.length:=by omega
  subst hke
  refine E_exit ?_
  refine E_seq ?_
  refine E_region' (L:=[0,1]) rfl ?_
  refine xmv ?_
  refine xas ?_
  refine EOps_nil ?_
  refine E_ret ?_
  exact⟨_,[1],rfl,rfl,rfl,rfl⟩

end Go.Proofs.YthlhmpknngidmaaGreat.E
