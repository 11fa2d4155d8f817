/- Walks through functions, by program out of the session's annotations. -/
import Derived.Test.YtcepgfcolmdnoaaA47
import Derived.Test.YtcepgfcolmdnoaaA25
import Derived.Test.YtcepgfcolmdnoaaA27
import Derived.Test.YtcepgfcolmdnoaaF4
import Derived.Test.YtcepgfcolmdnoaaA51
namespace Go.Proofs.Ytcepgfcolmdnoaa.E
open Go Go.RowKit Go.Proofs
set_option linter.unusedVariables false
set_option linter.unusedSimpArgs false

def liveA (c : Crk) (p : Pnd) (r : Int × Int) : Nat → List Int
 | 0=>[]
 | k+1=>if (inR r (c.vals.getD k 0) && !decide (c.rows.getD k 0 ∈ p.del))=true then liveA c p r k++[c.rows.getD k 0] else liveA c p r k
def liveB (c : Crk) (p : Pnd) (r : Int × Int) : Nat → List Int
 | 0=>liveA c p r c.vals.length
 | k+1=>if inR r (p.ins.getD k (0,0)).1=true then liveB c p r k++[(p.ins.getD k (0,0)).2] else liveB c p r k
def liveL (c:Crk) (p:Pnd) (r:Int × Int):List Int:=if isPnd c p=true then sortI (liveB c p r p.ins.length) else []
theorem liveA_at {c : Crk} {p : Pnd} {r : Int × Int} {k : Nat} {x y : Int} (hx : c.vals[k]? = some x) (hy : c.rows[k]? = some y) : liveA c p r (k + 1) = if (inR r x && !decide (y ∈ p.del)) = true then liveA c p r k ++ [y] else liveA c p r k := by
 rw [liveA,getD_x hx,getD_x hy]
theorem liveB_at {c : Crk} {p : Pnd} {r : Int × Int} {k : Nat} {x : Int × Int} (hx : p.ins[k]? = some x) : liveB c p r (k + 1) = if inR r x.1 = true then liveB c p r k ++ [x.2] else liveB c p r k := by
 have e:p.ins.getD k (0,0)=x:=by simp [List.getD,hx]
 rw [liveB,e]
theorem liveA_len (c : Crk) (p : Pnd) (r : Int × Int) : ∀ k, (liveA c p r k).length ≤ k
 | 0=>Nat.le_refl _
 | k + 1 => by
  have:=liveA_len c p r k
  rw [liveA]
  split
  ·rw [List.length_append,List.length_singleton];omega
  ·omega
theorem liveB_len (c : Crk) (p : Pnd) (r : Int × Int) : ∀ k, (liveB c p r k).length ≤ c.vals.length + k
 | 0=>liveA_len c p r _
 | k + 1 => by
  have:=liveB_len c p r k
  rw [liveB]
  split
  ·rw [List.length_append,List.length_singleton];omega
  ·omega
theorem pnd_lens {c : Crk} {p : Pnd} (h : isPnd c p = true) : isCrk c = true ∧ p.ins.length ≤ 20 ∧ p.del.length ≤ 20 ∧ c.vals.length + p.ins.length ≤ 64 := by
 simp only [isPnd,pndN,Bool.and_eq_true,decide_eq_true_eq] at h
 exact⟨h.1.1.1,h.1.1.2.1.1,h.1.1.2.1.2,h.1.1.2.2⟩
theorem live_le {c : Crk} {p : Pnd} {r : Int × Int} : (liveL c p r).length ≤ 1048576 := by
 rw [liveL]
 split
 ·rename_i h
  have:=pnd_lens h
  have:=liveB_len c p r p.ins.length
  rw [sortI_len];omega
 ·simp

set_option maxRecDepth 20000 in
set_option maxHeartbeats 4000000 in
theorem c_spec_LiveRows (c : Crk) (p : Pnd) (r : Int × Int) (hb : c.rows.length ≤ 1048576 ∧ p.ins.length ≤ 4194304) : EFn Try.prog 36 [.agg (crkC c), .agg (pndC p), .agg [.sc (.int .i64 r.1), .sc (.int .i64 r.2)]] [] (fun y S => y = .c (.sl 0 0 (liveL c p r).length (liveL c p r).length) ∧ S = [.row 3 1 (ints (liveL c p r))]) := by
  refine E_fn Try.func36 rfl (Nat.le_of_ble_eq_true rfl) ?_
  refine E_G (n:=0) rfl ?_
  refine G_seq ?_
  refine G_region' (L:=[0,1,2,3]) rfl ?_
  refine x_box rfl rfl rfl rfl rfl ?_
  refine x_box rfl rfl rfl rfl rfl ?_
  refine x_box rfl rfl rfl rfl rfl ?_
  refine xas ?_
  refine EOps_nil ?_
  refine G_seq ?_
  refine G_region' (L:=[0,1]) rfl ?_
  refine EOps_go rfl rfl (Heavy.op (H_bslice rfl rfl (by decide) sl_24 ty_3 za_3 ⟨rfl,by decide⟩ (by decide) rfl rfl rfl rfl ?_))
  refine xas ?_
  refine EOps_nil ?_
  refine G_seq ?_
  refine G_seq ?_
  refine g_tidy [0,1,2,3,4,5,6,7] ?_
  refine G_region' (L:=[0,1,2,3]) rfl ?_
  refine x_light rfl rfl rfl (L_load rfl (xb0 ty_27)) ?_
  refine x_light rfl rfl rfl (L_load rfl (xb0 ty_58)) ?_
  refine x_call rfl rfl rfl rfl rfl ca_109 (c_spec_IsPending c p hb) ?_
  rintro r S ⟨rfl,rfl⟩
  refine x_pure rfl rfl rfl (L_not rfl rfl) ?_
  refine EOps_nil ?_
  refine G_cond rfl (fun hc14=>?_) (fun hc14=>?_)
  · have he : liveL c p r = [] := by
      have h1:isPnd c p=false:=by simpa using hc14
      rw [liveL,h1];rfl
    refine G_seq ?_
    refine G_region' (L:=[0,1]) rfl ?_
    refine xmv ?_
    refine xas ?_
    refine EOps_nil ?_
    refine G_ret ?_
    rw [he]
    exact⟨_,[3],rfl,rfl,rfl,rfl⟩
  · have hp : isPnd c p = true := by simpa using hc14
    have hpl:=pnd_lens hp
    have hl:=crk_lens hpl.1
    refine G_skip ?_
    refine G_seq ?_
    refine G_seq ?_
    refine G_region' (L:=[0]) rfl ?_
    refine xas ?_
    refine EOps_nil ?_
    refine G_block ?_
    refine g_forD (α:=Nat) [0,1,2,3,4,5,6,14] (fun k=>[(8,.c (.sc (.int .i64 (k)))),(7,.c (.sl 3 0 (liveA c p r k).length (liveA c p r k).length))]) (fun k=>[.box (crkC c),.box (pndC p),.box [.sc (.int .i64 r.1),.sc (.int .i64 r.2)],.row 3 1 (ints (liveA c p r k))]) (fun k=>k≤c.vals.length) (fun k=>c.vals.length - k) (0) ?_ (rfl) ⟨.inr rfl,.inr rfl,trivial⟩ ?_
    · simp
    rintro k hk
    have han:=liveA_len c p r k
    have hal:(ints (liveA c p r k)).length=(liveA c p r k).length:=ints_len _
    refine G_seq ?_
    refine G_seq ?_
    refine G_region' (L:=[0,1,2,3,4]) rfl ?_
    refine xmv ?_
    refine x_pure rfl rfl rfl (l_field rfl fo_27_0) ?_
    refine x_light rfl rfl rfl (L_load rfl (xb0 ty_24)) ?_
    refine x_pure rfl rfl rfl (l_len rfl sl_24) ?_
    refine x_pure rfl rfl rfl (L_bin rfl rfl rfl rfl) ?_
    refine EOps_nil ?_
    refine G_cond rfl (fun hc20=>?_) (fun hc20=>?_)
    · have hc20' : k < (c.vals).length := by simpa [ints_len, bools_len, pairs_len, quads_len, quints_len] using hc20
      obtain⟨x,hx⟩:∃ x,(c.vals)[k]? = some x:=⟨_,List.getElem?_eq_getElem hc20'⟩
      obtain⟨y,hy⟩:=at_lt (l:=c.rows) (k:=k) (by omega)
      have hA:=liveA_at (p:=p) (r:=r) hx hy
      refine G_skip ?_
      refine G_seq ?_
      refine G_block ?_
      refine G_seq ?_
      refine g_tidy [0,1,2,3,4,5,6,7,8,14,20,40] ?_
      refine G_drawT mixed ?_
      refine t_light 0 rfl rfl rfl (L_load rfl (xb0 ty_41)) ?_
      refine t_old 1 rfl rfl rfl (l_field rfl fo_27_0) ?_
      refine t_light 2 rfl rfl rfl (L_load rfl (xb0 ty_24)) ?_
      refine t_old 3 rfl rfl rfl (L_move rfl) ?_
      refine t_old 4 rfl rfl rfl (L_index rfl rfl (by first|exact i_ro sl_24 ty_3|exact i_sl sl_24 ty_3)) ?_
      refine t_light 5 rfl rfl rfl (L_load rfl (xb0 ty_3)) ?_
      refine t_call 6 rfl rfl rfl rfl rfl ca_100 (c_spec_InRange r x) ?_
      rintro r S ⟨rfl,rfl⟩
      refine t_old 7 rfl rfl rfl (L_move rfl) ?_
      refine T_split 30 (b:=_) rfl rfl (fun hg30=>?_) (fun hg30=>?_)
      · refine t_old 8 rfl rfl rfl (l_field rfl fo_58_1) ?_
        refine t_light 9 rfl rfl rfl (L_load rfl (xb0 ty_24)) ?_
        refine t_old 10 rfl rfl rfl (l_field rfl fo_27_1) ?_
        refine t_light 11 rfl rfl rfl (L_load rfl (xb0 ty_24)) ?_
        refine t_old 12 rfl rfl rfl (L_move rfl) ?_
        refine t_old 13 rfl rfl rfl (L_index rfl rfl (by first|exact i_ro sl_24 ty_3|exact i_sl sl_24 ty_3)) ?_
        refine t_light 14 rfl rfl rfl (L_load rfl (xb0 ty_3)) ?_
        refine t_call 15 rfl rfl rfl rfl rfl ca_98 (c_spec_l4Has p.del y) ?_
        rintro r S ⟨rfl,rfl⟩
        refine t_old 16 rfl rfl rfl (L_not rfl rfl) ?_
        refine t_old 17 rfl rfl rfl (L_pick rfl rfl) ?_
        refine T_done (by kernel_rfl) ?_
        refine G_cond rfl (fun hc40=>?_) (fun hc40=>?_)
        · have hcond : (inR r x && !decide (y ∈ p.del)) = true := by
            have h1:inR r x=true:=hg30
            rw [h1];simpa using hc40
          have hN:liveA c p r (k+1)=liveA c p r k++[y]:=by rw [hA,if_pos hcond]
          have hL:(liveA c p r (k+1)).length=(liveA c p r k).length+1:=by rw [hN,List.length_append];rfl
          have hP:ints (liveA c p r (k+1))=ints (liveA c p r k)++ints [y]:=by rw [hN];simp [ints]
          refine G_region' (L:=[0,1,2,3,4,5,6,7,8]) rfl ?_
          refine xmv ?_
          refine x_pure rfl rfl rfl (l_field rfl fo_27_1) ?_
          refine x_light rfl rfl rfl (L_load rfl (xb0 ty_24)) ?_
          refine xmv ?_
          refine x_pure rfl rfl rfl (L_index rfl rfl (by first|exact i_ro sl_24 ty_3|exact i_sl sl_24 ty_3)) ?_
          refine x_light rfl rfl rfl (L_load rfl (xb0 ty_3)) ?_
          refine EOps_go rfl rfl (Heavy.op (H_bslice_ro rfl rfl (by decide) sl_24 ty_3 za_3 ⟨rfl,by decide⟩ (by decide) rfl rfl rfl rfl ?_))
          refine EOps_go rfl rfl (EOp_append (news:=(ints [y])) rfl rfl (by decide) sl_24 ty_3 by_3 za_3 ⟨rfl,by decide⟩ rfl (by first|rfl|assumption) xb6 xb7 xb8 xb9 ?_)
          refine xas ?_
          refine EOps_nil ?_
          refine G_region' (L:=[0,1,2]) rfl ?_
          refine xmv ?_
          refine x_pure rfl rfl rfl xb3 ?_
          refine xas ?_
          refine EOps_nil ?_
          refine⟨[0,1,2,3],rfl,k+1,?_,?_,by simp only [hP];rfl,⟨.inr rfl,.inr ((by rw [hL]<;>rfl)),trivial⟩,⟨.inr rfl,.inr rfl,.inr rfl,.inr rfl,.inr rfl,.inr rfl,.inr rfl,.inr rfl,trivial⟩⟩
          · first|omega|(dsimp only;omega)|(simp;omega)
          · first|trivial|omega|(dsimp only;omega)|(simp;omega)
        · have hcond : ¬ (inR r x && !decide (y ∈ p.del)) = true := by
            first
              | (have h1 : inR r x = false := hg30
                 rw [h1];simp;done)
              | (have h1 : inR r x = true := hg30
                 rw [h1];simpa using hc40)
          have hN:liveA c p r (k+1)=liveA c p r k:=by rw [hA,if_neg hcond]
          have hL:(liveA c p r (k+1)).length=(liveA c p r k).length:=by rw [hN]
          have hP:ints (liveA c p r (k+1))=ints (liveA c p r k):=by rw [hN]
          refine G_skip ?_
          refine G_region' (L:=[0,1,2]) rfl ?_
          refine xmv ?_
          refine x_pure rfl rfl rfl xb3 ?_
          refine xas ?_
          refine EOps_nil ?_
          refine⟨[0,1,2,3],rfl,k+1,?_,?_,by simp only [hP];rfl,⟨.inr rfl,.inr ((by rw [hL]<;>rfl)),trivial⟩,⟨.inr rfl,.inr rfl,.inr rfl,.inr rfl,.inr rfl,.inr rfl,.inr rfl,.inr rfl,trivial⟩⟩
          · first|omega|(dsimp only;omega)|(simp;omega)
          · first|trivial|omega|(dsimp only;omega)|(simp;omega)
      · refine t_skip 8 rfl rfl rfl ?_
        refine t_skip 9 rfl rfl rfl ?_
        refine t_skip 10 rfl rfl rfl ?_
        refine t_skip 11 rfl rfl rfl ?_
        refine t_skip 12 rfl rfl rfl ?_
        refine t_skip 13 rfl rfl rfl ?_
        refine t_skip 14 rfl rfl rfl ?_
        refine t_skip 15 rfl rfl rfl ?_
        refine t_skip 16 rfl rfl rfl ?_
        refine t_old 17 rfl rfl rfl (L_pick rfl rfl) ?_
        refine T_done (by kernel_rfl) ?_
        refine G_cond rfl (fun hc40=>?_) (fun hc40=>?_)
        · exact Bool.noConfusion (hc40:false=true)
        · have hcond : ¬ (inR r x && !decide (y ∈ p.del)) = true := by
            first
              | (have h1 : inR r x = false := hg30
                 rw [h1];simp;done)
              | (have h1 : inR r x = true := hg30
                 rw [h1];simpa using hc40)
          have hN:liveA c p r (k+1)=liveA c p r k:=by rw [hA,if_neg hcond]
          have hL:(liveA c p r (k+1)).length=(liveA c p r k).length:=by rw [hN]
          have hP:ints (liveA c p r (k+1))=ints (liveA c p r k):=by rw [hN]
          refine G_skip ?_
          refine G_region' (L:=[0,1,2]) rfl ?_
          refine xmv ?_
          refine x_pure rfl rfl rfl xb3 ?_
          refine xas ?_
          refine EOps_nil ?_
          refine⟨[0,1,2,3],rfl,k+1,?_,?_,by simp only [hP];rfl,⟨.inr rfl,.inr ((by rw [hL]<;>rfl)),trivial⟩,⟨.inr rfl,.inr rfl,.inr rfl,.inr rfl,.inr rfl,.inr rfl,.inr rfl,.inr rfl,trivial⟩⟩
          · first|omega|(dsimp only;omega)|(simp;omega)
          · first|trivial|omega|(dsimp only;omega)|(simp;omega)
    · have hke : k = c.vals.length := by
        have:c.vals.length≤k:=by simpa [ints_len] using hc20
        omega
      refine G_exit ?_
      refine G_seq ?_
      refine G_seq ?_
      refine G_region' (L:=[0]) rfl ?_
      refine xas ?_
      refine EOps_nil ?_
      refine G_block ?_
      refine g_forD (α:=Nat) [0,1,2,3,4,5,6,8,14,20,40] (fun k=>[(9,.c (.sc (.int .i64 (k)))),(7,.c (.sl 3 0 (liveB c p r k).length (liveB c p r k).length))]) (fun k=>[.box (crkC c),.box (pndC p),.box [.sc (.int .i64 r.1),.sc (.int .i64 r.2)],.row 3 1 (ints (liveB c p r k))]) (fun k=>k≤p.ins.length) (fun k=>p.ins.length - k) (0) ?_ (by subst hke;rfl) ⟨.inr rfl,.inr ((by subst hke;rfl)),trivial⟩ ?_
      · simp
      rintro k hk2
      have hbn:=liveB_len c p r k
      have hbl:(ints (liveB c p r k)).length=(liveB c p r k).length:=ints_len _
      refine G_seq ?_
      refine G_seq ?_
      refine G_region' (L:=[0,1,2,3,4]) rfl ?_
      refine xmv ?_
      refine x_pure rfl rfl rfl (l_field rfl fo_58_0) ?_
      refine x_light rfl rfl rfl (L_load rfl (xb0 ty_56)) ?_
      refine x_pure rfl rfl rfl (l_len rfl sl_56) ?_
      refine x_pure rfl rfl rfl (L_bin rfl rfl rfl rfl) ?_
      refine EOps_nil ?_
      refine G_cond rfl (fun hc53=>?_) (fun hc53=>?_)
      · have hc53' : k < (p.ins).length := by simpa [ints_len, bools_len, pairs_len, quads_len, quints_len] using hc53
        obtain⟨x,hx⟩:∃ x,(p.ins)[k]? = some x:=⟨_,List.getElem?_eq_getElem hc53'⟩
        have hB:=liveB_at (c:=c) (r:=r) hx
        refine G_skip ?_
        refine G_seq ?_
        refine G_block ?_
        refine G_seq ?_
        refine g_tidy [0,1,2,3,4,5,6,7,8,9,14,20,40,53,63] ?_
        refine G_drawT mixed ?_
        refine t_light 0 rfl rfl rfl (L_load rfl (xb0 ty_41)) ?_
        refine t_old 1 rfl rfl rfl (l_field rfl fo_58_0) ?_
        refine t_light 2 rfl rfl rfl (L_load rfl (xb0 ty_56)) ?_
        refine t_old 3 rfl rfl rfl (L_move rfl) ?_
        refine t_old 4 rfl rfl rfl (L_index rfl rfl (by first|exact i_ro sl_56 ty_60|exact i_sl sl_56 ty_60)) ?_
        refine t_old 5 rfl rfl rfl (l_field rfl fo_60_0) ?_
        refine t_light 6 rfl rfl rfl (L_load rfl (xb0 ty_3)) ?_
        refine t_call 7 rfl rfl rfl rfl rfl ca_100 (c_spec_InRange r x.1) ?_
        rintro r S ⟨rfl,rfl⟩
        refine T_done (by kernel_rfl) ?_
        refine G_cond rfl (fun hc63=>?_) (fun hc63=>?_)
        · have hcond : inR r x.1 = true := hc63
          have hN:liveB c p r (k+1)=liveB c p r k++[x.2]:=by rw [hB,if_pos hcond]
          have hL:(liveB c p r (k+1)).length=(liveB c p r k).length+1:=by rw [hN,List.length_append];rfl
          have hP:ints (liveB c p r (k+1))=ints (liveB c p r k)++ints [x.2]:=by rw [hN];simp [ints]
          refine G_region' (L:=[0,1,2,3,4,5,6,7,8,9]) rfl ?_
          refine xmv ?_
          refine x_pure rfl rfl rfl (l_field rfl fo_58_0) ?_
          refine x_light rfl rfl rfl (L_load rfl (xb0 ty_56)) ?_
          refine xmv ?_
          refine x_pure rfl rfl rfl (L_index rfl rfl (by first|exact i_ro sl_56 ty_60|exact i_sl sl_56 ty_60)) ?_
          refine x_pure rfl rfl rfl (l_field rfl fo_60_1) ?_
          refine x_light rfl rfl rfl (L_load rfl (xb0 ty_3)) ?_
          refine EOps_go rfl rfl (Heavy.op (H_bslice_ro rfl rfl (by decide) sl_24 ty_3 za_3 ⟨rfl,by decide⟩ (by decide) rfl rfl rfl rfl ?_))
          refine EOps_go rfl rfl (EOp_append (news:=(ints [x.2])) rfl rfl (by decide) sl_24 ty_3 by_3 za_3 ⟨rfl,by decide⟩ rfl (by first|rfl|assumption) xb6 xb7 xb8 xb9 ?_)
          refine xas ?_
          refine EOps_nil ?_
          refine G_region' (L:=[0,1,2]) rfl ?_
          refine xmv ?_
          refine x_pure rfl rfl rfl xb3 ?_
          refine xas ?_
          refine EOps_nil ?_
          refine⟨[0,1,2,3],rfl,k+1,?_,?_,by simp only [hP];rfl,⟨.inr rfl,.inr ((by rw [hL]<;>rfl)),trivial⟩,⟨.inr rfl,.inr rfl,.inr rfl,.inr rfl,.inr rfl,.inr rfl,.inr rfl,.inr rfl,.inr rfl,.inr rfl,.inr rfl,trivial⟩⟩
          · first|omega|(dsimp only;omega)|(simp;omega)
          · first|trivial|omega|(dsimp only;omega)|(simp;omega)
        · have hcond : ¬ inR r x.1 = true := by
            have h1:inR r x.1=false:=hc63
            rw [h1];simp
          have hN:liveB c p r (k+1)=liveB c p r k:=by rw [hB,if_neg hcond]
          have hL:(liveB c p r (k+1)).length=(liveB c p r k).length:=by rw [hN]
          have hP:ints (liveB c p r (k+1))=ints (liveB c p r k):=by rw [hN]
          refine G_skip ?_
          refine G_region' (L:=[0,1,2]) rfl ?_
          refine xmv ?_
          refine x_pure rfl rfl rfl xb3 ?_
          refine xas ?_
          refine EOps_nil ?_
          refine⟨[0,1,2,3],rfl,k+1,?_,?_,by simp only [hP];rfl,⟨.inr rfl,.inr ((by rw [hL]<;>rfl)),trivial⟩,⟨.inr rfl,.inr rfl,.inr rfl,.inr rfl,.inr rfl,.inr rfl,.inr rfl,.inr rfl,.inr rfl,.inr rfl,.inr rfl,trivial⟩⟩
          · first|omega|(dsimp only;omega)|(simp;omega)
          · first|trivial|omega|(dsimp only;omega)|(simp;omega)
      · have hke2 : k = p.ins.length := by
          have:p.ins.length≤k:=by simpa [pairs_len] using hc53
          omega
        have he:liveL c p r=sortI (liveB c p r k):=by rw [liveL,if_pos hp,hke2]
        have hle:(liveB c p r k).length≤1048576:=by omega
        refine G_exit ?_
        refine G_seq ?_
        refine g_tidy [0,1,2,3,4,5,6,7,8,9,14,20,40,53,63] ?_
        refine G_region' (L:=[0,1,2]) rfl ?_
        refine xmv ?_
        refine x_call rfl rfl rfl rfl rfl ca_54 (c_spec_SortInts (liveB c p r k) hle) ?_
        rintro r S ⟨rfl,rfl⟩
        refine xas ?_
        refine EOps_nil ?_
        refine G_ret ?_
        rw [he]
        exact⟨_,[4],rfl,rfl,rfl,rfl⟩

set_option maxRecDepth 20000 in
set_option maxHeartbeats 4000000 in
theorem c_impl_LiveRows (c : Crk) (p : Pnd) (r : Int × Int) (hb : c.rows.length ≤ 1048576 ∧ p.ins.length ≤ 4194304) : EFn Try.prog 35 [.agg (crkC c), .agg (pndC p), .agg [.sc (.int .i64 r.1), .sc (.int .i64 r.2)]] [] (fun y S => y = .c (.sl 0 0 (liveL c p r).length (liveL c p r).length) ∧ S = [.row 3 1 (ints (liveL c p r))]) := by
  refine E_fn Try.func35 rfl (Nat.le_of_ble_eq_true rfl) ?_
  refine E_G (n:=0) rfl ?_
  refine G_seq ?_
  refine G_region' (L:=[0,1,2,3]) rfl ?_
  refine x_box rfl rfl rfl rfl rfl ?_
  refine x_box rfl rfl rfl rfl rfl ?_
  refine x_box rfl rfl rfl rfl rfl ?_
  refine xas ?_
  refine EOps_nil ?_
  refine G_seq ?_
  refine G_seq ?_
  refine g_tidy [0,1,2,3,4,5,6] ?_
  refine G_region' (L:=[0,1,2,3]) rfl ?_
  refine x_light rfl rfl rfl (L_load rfl (xb0 ty_27)) ?_
  refine x_light rfl rfl rfl (L_load rfl (xb0 ty_58)) ?_
  refine x_call rfl rfl rfl rfl rfl ca_39 (c_impl_IsPending c p hb) ?_
  rintro r S ⟨rfl,rfl⟩
  refine x_pure rfl rfl rfl (L_not rfl rfl) ?_
  refine EOps_nil ?_
  refine G_cond rfl (fun hc15=>?_) (fun hc15=>?_)
  · have he : liveL c p r = [] := by
      have h1:isPnd c p=false:=by simpa using hc15
      rw [liveL,h1];rfl
    refine G_seq ?_
    refine G_region' (L:=[0]) rfl ?_
    refine xas ?_
    refine EOps_nil ?_
    refine G_ghostS 6 3 1 rfl (by decide) ?_
    refine G_ret ?_
    rw [he]
    exact⟨_,[3],rfl,rfl,rfl,rfl⟩
  · have hp : isPnd c p = true := by simpa using hc15
    have hpl:=pnd_lens hp
    have hl:=crk_lens hpl.1
    refine G_skip ?_
    refine G_seq ?_
    refine G_region' (L:=[0,1]) rfl ?_
    refine EOps_go rfl rfl (Heavy.op (H_bslice rfl rfl (by decide) sl_24 ty_3 za_3 ⟨rfl,by decide⟩ (by decide) rfl rfl rfl rfl ?_))
    refine xas ?_
    refine EOps_nil ?_
    refine G_seq ?_
    refine G_seq ?_
    refine G_region' (L:=[0,1,2,3]) rfl ?_
    refine x_pure rfl rfl rfl (l_field rfl fo_27_0) ?_
    refine x_light rfl rfl rfl (L_load rfl (xb0 ty_24)) ?_
    refine x_pure rfl rfl rfl (l_len rfl sl_24) ?_
    refine xmv ?_
    refine EOps_nil ?_
    refine G_block ?_
    refine g_forD (α:=Nat) [0,1,2,3,4,5,6,15,18,19] (fun k=>[(20,.c (.sc (.int .i64 (k)))),(7,.c (.sl 3 0 (liveA c p r k).length (liveA c p r k).length))]) (fun k=>[.box (crkC c),.box (pndC p),.box [.sc (.int .i64 r.1),.sc (.int .i64 r.2)],.row 3 1 (ints (liveA c p r k))]) (fun k=>k≤c.vals.length) (fun k=>c.vals.length - k) (0) ?_ (rfl) ⟨.inr rfl,.inr rfl,trivial⟩ ?_
    · simp
    rintro k hk
    have han:=liveA_len c p r k
    have hal:(ints (liveA c p r k)).length=(liveA c p r k).length:=ints_len _
    refine G_seq ?_
    refine G_region' (L:=[0]) rfl ?_
    refine x_pure rfl rfl rfl (L_bin rfl rfl rfl rfl) ?_
    refine EOps_nil ?_
    refine G_seq ?_
    refine G_cond rfl (fun hc21=>?_) (fun hc21=>?_)
    · have hc21' : k < (c.vals).length := by simpa [ints_len, bools_len, pairs_len, quads_len, quints_len] using hc21
      obtain⟨x,hx⟩:∃ x,(c.vals)[k]? = some x:=⟨_,List.getElem?_eq_getElem hc21'⟩
      obtain⟨y,hy⟩:=at_lt (l:=c.rows) (k:=k) (by omega)
      have hA:=liveA_at (p:=p) (r:=r) hx hy
      refine G_skip ?_
      refine G_seq ?_
      refine G_block ?_
      refine G_seq ?_
      refine G_region' (L:=[0,1,2,3,4]) rfl ?_
      refine xmv ?_
      refine x_pure rfl rfl rfl (L_index rfl rfl (by first|exact i_ro sl_24 ty_3|exact i_sl sl_24 ty_3)) ?_
      refine x_light rfl rfl rfl (L_load rfl (xb0 ty_3)) ?_
      refine xas ?_
      refine xas ?_
      refine EOps_nil ?_
      refine G_seq ?_
      refine g_tidy [0,1,2,3,4,5,6,7,8,9,15,18,19,20,21,38] ?_
      refine G_drawT mixed ?_
      refine t_light 0 rfl rfl rfl (L_load rfl (xb0 ty_41)) ?_
      refine t_old 1 rfl rfl rfl (L_move rfl) ?_
      refine t_call 2 rfl rfl rfl rfl rfl ca_113 (c_impl_InRange r x) ?_
      rintro r S ⟨rfl,rfl⟩
      refine t_old 3 rfl rfl rfl (L_move rfl) ?_
      refine T_split 28 (b:=_) rfl rfl (fun hg28=>?_) (fun hg28=>?_)
      · refine t_old 4 rfl rfl rfl (l_field rfl fo_58_1) ?_
        refine t_light 5 rfl rfl rfl (L_load rfl (xb0 ty_24)) ?_
        refine t_old 6 rfl rfl rfl (l_field rfl fo_27_1) ?_
        refine t_light 7 rfl rfl rfl (L_load rfl (xb0 ty_24)) ?_
        refine t_old 8 rfl rfl rfl (L_move rfl) ?_
        refine t_old 9 rfl rfl rfl (L_index rfl rfl (by first|exact i_ro sl_24 ty_3|exact i_sl sl_24 ty_3)) ?_
        refine t_light 10 rfl rfl rfl (L_load rfl (xb0 ty_3)) ?_
        refine t_call 11 rfl rfl rfl rfl rfl ca_103 (c_slices_Contains___int_int_ p.del y) ?_
        rintro r S ⟨rfl,rfl⟩
        refine t_old 12 rfl rfl rfl (L_not rfl rfl) ?_
        refine t_old 13 rfl rfl rfl (L_pick rfl rfl) ?_
        refine T_done (by kernel_rfl) ?_
        refine G_cond rfl (fun hc38=>?_) (fun hc38=>?_)
        · have hcond : (inR r x && !decide (y ∈ p.del)) = true := by
            have h1:inR r x=true:=hg28
            rw [h1];simpa using hc38
          have hN:liveA c p r (k+1)=liveA c p r k++[y]:=by rw [hA,if_pos hcond]
          have hL:(liveA c p r (k+1)).length=(liveA c p r k).length+1:=by rw [hN,List.length_append];rfl
          have hP:ints (liveA c p r (k+1))=ints (liveA c p r k)++ints [y]:=by rw [hN];simp [ints]
          refine G_region' (L:=[0,1,2,3,4,5,6,7,8]) rfl ?_
          refine xmv ?_
          refine x_pure rfl rfl rfl (l_field rfl fo_27_1) ?_
          refine x_light rfl rfl rfl (L_load rfl (xb0 ty_24)) ?_
          refine xmv ?_
          refine x_pure rfl rfl rfl (L_index rfl rfl (by first|exact i_ro sl_24 ty_3|exact i_sl sl_24 ty_3)) ?_
          refine x_light rfl rfl rfl (L_load rfl (xb0 ty_3)) ?_
          refine EOps_go rfl rfl (Heavy.op (H_bslice_ro rfl rfl (by decide) sl_24 ty_3 za_3 ⟨rfl,by decide⟩ (by decide) rfl rfl rfl rfl ?_))
          refine EOps_go rfl rfl (EOp_append (news:=(ints [y])) rfl rfl (by decide) sl_24 ty_3 by_3 za_3 ⟨rfl,by decide⟩ rfl (by first|rfl|assumption) xb6 xb7 xb8 xb9 ?_)
          refine xas ?_
          refine EOps_nil ?_
          refine G_region' (L:=[0,1]) rfl ?_
          refine x_pure rfl rfl rfl xb3 ?_
          refine xmv ?_
          refine EOps_nil ?_
          refine⟨[0,1,2,3],rfl,k+1,?_,?_,by simp only [hP];rfl,⟨.inr rfl,.inr ((by rw [hL]<;>rfl)),trivial⟩,⟨.inr rfl,.inr rfl,.inr rfl,.inr rfl,.inr rfl,.inr rfl,.inr rfl,.inr rfl,.inr rfl,.inr rfl,trivial⟩⟩
          · first|omega|(dsimp only;omega)|(simp;omega)
          · first|trivial|omega|(dsimp only;omega)|(simp;omega)
        · have hcond : ¬ (inR r x && !decide (y ∈ p.del)) = true := by
            first
              | (have h1 : inR r x = false := hg28
                 rw [h1];simp;done)
              | (have h1 : inR r x = true := hg28
                 rw [h1];simpa using hc38)
          have hN:liveA c p r (k+1)=liveA c p r k:=by rw [hA,if_neg hcond]
          have hL:(liveA c p r (k+1)).length=(liveA c p r k).length:=by rw [hN]
          have hP:ints (liveA c p r (k+1))=ints (liveA c p r k):=by rw [hN]
          refine G_skip ?_
          refine G_region' (L:=[0,1]) rfl ?_
          refine x_pure rfl rfl rfl xb3 ?_
          refine xmv ?_
          refine EOps_nil ?_
          refine⟨[0,1,2,3],rfl,k+1,?_,?_,by simp only [hP];rfl,⟨.inr rfl,.inr ((by rw [hL]<;>rfl)),trivial⟩,⟨.inr rfl,.inr rfl,.inr rfl,.inr rfl,.inr rfl,.inr rfl,.inr rfl,.inr rfl,.inr rfl,.inr rfl,trivial⟩⟩
          · first|omega|(dsimp only;omega)|(simp;omega)
          · first|trivial|omega|(dsimp only;omega)|(simp;omega)
      · refine t_skip 4 rfl rfl rfl ?_
        refine t_skip 5 rfl rfl rfl ?_
        refine t_skip 6 rfl rfl rfl ?_
        refine t_skip 7 rfl rfl rfl ?_
        refine t_skip 8 rfl rfl rfl ?_
        refine t_skip 9 rfl rfl rfl ?_
        refine t_skip 10 rfl rfl rfl ?_
        refine t_skip 11 rfl rfl rfl ?_
        refine t_skip 12 rfl rfl rfl ?_
        refine t_old 13 rfl rfl rfl (L_pick rfl rfl) ?_
        refine T_done (by kernel_rfl) ?_
        refine G_cond rfl (fun hc38=>?_) (fun hc38=>?_)
        · exact Bool.noConfusion (hc38:false=true)
        · have hcond : ¬ (inR r x && !decide (y ∈ p.del)) = true := by
            first
              | (have h1 : inR r x = false := hg28
                 rw [h1];simp;done)
              | (have h1 : inR r x = true := hg28
                 rw [h1];simpa using hc38)
          have hN:liveA c p r (k+1)=liveA c p r k:=by rw [hA,if_neg hcond]
          have hL:(liveA c p r (k+1)).length=(liveA c p r k).length:=by rw [hN]
          have hP:ints (liveA c p r (k+1))=ints (liveA c p r k):=by rw [hN]
          refine G_skip ?_
          refine G_region' (L:=[0,1]) rfl ?_
          refine x_pure rfl rfl rfl xb3 ?_
          refine xmv ?_
          refine EOps_nil ?_
          refine⟨[0,1,2,3],rfl,k+1,?_,?_,by simp only [hP];rfl,⟨.inr rfl,.inr ((by rw [hL]<;>rfl)),trivial⟩,⟨.inr rfl,.inr rfl,.inr rfl,.inr rfl,.inr rfl,.inr rfl,.inr rfl,.inr rfl,.inr rfl,.inr rfl,trivial⟩⟩
          · first|omega|(dsimp only;omega)|(simp;omega)
          · first|trivial|omega|(dsimp only;omega)|(simp;omega)
    · have hke : k = c.vals.length := by
        have:c.vals.length≤k:=by simpa [ints_len] using hc21
        omega
      refine G_exit ?_
      refine G_seq ?_
      refine G_seq ?_
      refine G_region' (L:=[0,1,2,3]) rfl ?_
      refine x_pure rfl rfl rfl (l_field rfl fo_58_0) ?_
      refine x_light rfl rfl rfl (L_load rfl (xb0 ty_56)) ?_
      refine x_pure rfl rfl rfl (l_len rfl sl_56) ?_
      refine xmv ?_
      refine EOps_nil ?_
      refine G_block ?_
      refine g_forD (α:=Nat) [0,1,2,3,4,5,6,8,9,15,18,19,20,21,38,49,50] (fun k=>[(51,.c (.sc (.int .i64 (k)))),(7,.c (.sl 3 0 (liveB c p r k).length (liveB c p r k).length))]) (fun k=>[.box (crkC c),.box (pndC p),.box [.sc (.int .i64 r.1),.sc (.int .i64 r.2)],.row 3 1 (ints (liveB c p r k))]) (fun k=>k≤p.ins.length) (fun k=>p.ins.length - k) (0) ?_ (by subst hke;rfl) ⟨.inr rfl,.inr ((by subst hke;rfl)),trivial⟩ ?_
      · simp
      rintro k hk2
      have hbn:=liveB_len c p r k
      have hbl:(ints (liveB c p r k)).length=(liveB c p r k).length:=ints_len _
      refine G_seq ?_
      refine G_region' (L:=[0]) rfl ?_
      refine x_pure rfl rfl rfl (L_bin rfl rfl rfl rfl) ?_
      refine EOps_nil ?_
      refine G_seq ?_
      refine G_cond rfl (fun hc52=>?_) (fun hc52=>?_)
      · have hc52' : k < (p.ins).length := by simpa [ints_len, bools_len, pairs_len, quads_len, quints_len] using hc52
        obtain⟨x,hx⟩:∃ x,(p.ins)[k]? = some x:=⟨_,List.getElem?_eq_getElem hc52'⟩
        have hB:=liveB_at (c:=c) (r:=r) hx
        refine G_skip ?_
        refine G_seq ?_
        refine G_block ?_
        refine G_seq ?_
        refine G_region' (L:=[0,1,2,3]) rfl ?_
        refine x_pure rfl rfl rfl (L_index rfl rfl (by first|exact i_ro sl_56 ty_60|exact i_sl sl_56 ty_60)) ?_
        refine x_light rfl rfl rfl (L_load rfl (xb0 ty_60)) ?_
        refine x_alloc rfl rfl rfl rfl za_60 ?_
        refine EOps_go rfl rfl (EOp_store rfl rfl rfl (xb1 ty_60) ?_)
        refine EOps_nil ?_
        refine G_seq ?_
        refine g_tidy [0,1,2,3,4,5,6,7,8,9,11,15,18,19,20,21,38,49,50,51,52,58] ?_
        refine G_region' (L:=[0,1,2,3]) rfl ?_
        refine x_light rfl rfl rfl (L_load rfl (xb0 ty_41)) ?_
        refine x_pure rfl rfl rfl (l_field rfl fo_60_0) ?_
        refine x_light rfl rfl rfl (L_load rfl (xb0 ty_3)) ?_
        refine x_call rfl rfl rfl rfl rfl ca_113 (c_impl_InRange r x.1) ?_
        rintro r S ⟨rfl,rfl⟩
        refine EOps_nil ?_
        refine G_cond rfl (fun hc58=>?_) (fun hc58=>?_)
        · have hcond : inR r x.1 = true := hc58
          have hN:liveB c p r (k+1)=liveB c p r k++[x.2]:=by rw [hB,if_pos hcond]
          have hL:(liveB c p r (k+1)).length=(liveB c p r k).length+1:=by rw [hN,List.length_append];rfl
          have hP:ints (liveB c p r (k+1))=ints (liveB c p r k)++ints [x.2]:=by rw [hN];simp [ints]
          refine G_region' (L:=[0,1,2,3,4,5]) rfl ?_
          refine xmv ?_
          refine x_pure rfl rfl rfl (l_field rfl fo_60_1) ?_
          refine x_light rfl rfl rfl (L_load rfl (xb0 ty_3)) ?_
          refine EOps_go rfl rfl (Heavy.op (H_bslice_ro rfl rfl (by decide) sl_24 ty_3 za_3 ⟨rfl,by decide⟩ (by decide) rfl rfl rfl rfl ?_))
          refine EOps_go rfl rfl (EOp_append (news:=(ints [x.2])) rfl rfl (by decide) sl_24 ty_3 by_3 za_3 ⟨rfl,by decide⟩ rfl (by first|rfl|assumption) xb6 xb7 xb8 xb9 ?_)
          refine xas ?_
          refine EOps_nil ?_
          refine G_region' (L:=[0,1]) rfl ?_
          refine x_pure rfl rfl rfl xb3 ?_
          refine xmv ?_
          refine EOps_nil ?_
          refine⟨[0,1,2,3],rfl,k+1,?_,?_,by simp only [hP];rfl,⟨.inr rfl,.inr ((by rw [hL]<;>rfl)),trivial⟩,⟨.inr rfl,.inr rfl,.inr rfl,.inr rfl,.inr rfl,.inr rfl,.inr rfl,.inr rfl,.inr rfl,.inr rfl,.inr rfl,.inr rfl,.inr rfl,.inr rfl,.inr rfl,.inr rfl,.inr rfl,trivial⟩⟩
          · first|omega|(dsimp only;omega)|(simp;omega)
          · first|trivial|omega|(dsimp only;omega)|(simp;omega)
        · have hcond : ¬ inR r x.1 = true := by
            have h1:inR r x.1=false:=hc58
            rw [h1];simp
          have hN:liveB c p r (k+1)=liveB c p r k:=by rw [hB,if_neg hcond]
          have hL:(liveB c p r (k+1)).length=(liveB c p r k).length:=by rw [hN]
          have hP:ints (liveB c p r (k+1))=ints (liveB c p r k):=by rw [hN]
          refine G_skip ?_
          refine G_region' (L:=[0,1]) rfl ?_
          refine x_pure rfl rfl rfl xb3 ?_
          refine xmv ?_
          refine EOps_nil ?_
          refine⟨[0,1,2,3],rfl,k+1,?_,?_,by simp only [hP];rfl,⟨.inr rfl,.inr ((by rw [hL]<;>rfl)),trivial⟩,⟨.inr rfl,.inr rfl,.inr rfl,.inr rfl,.inr rfl,.inr rfl,.inr rfl,.inr rfl,.inr rfl,.inr rfl,.inr rfl,.inr rfl,.inr rfl,.inr rfl,.inr rfl,.inr rfl,.inr rfl,trivial⟩⟩
          · first|omega|(dsimp only;omega)|(simp;omega)
          · first|trivial|omega|(dsimp only;omega)|(simp;omega)
      · have hke2 : k = p.ins.length := by
          have:p.ins.length≤k:=by simpa [pairs_len] using hc52
          omega
        have he:liveL c p r=sortI (liveB c p r k):=by rw [liveL,if_pos hp,hke2]
        have hle:(liveB c p r k).length≤1048576:=by omega
        refine G_exit ?_
        refine G_seq ?_
        refine g_tidy [0,1,2,3,4,5,6,7,8,9,11,15,18,19,20,21,38,49,50,51,52,58] ?_
        refine G_region' (L:=[0,1,2]) rfl ?_
        refine xmv ?_
        refine x_call rfl rfl rfl rfl rfl ca_101 (c_impl_SortInts (liveB c p r k) hle) ?_
        rintro r S ⟨rfl,rfl⟩
        refine xas ?_
        refine EOps_nil ?_
        refine G_ret ?_
        rw [he]
        exact⟨_,[4],rfl,rfl,rfl,rfl⟩

end Go.Proofs.Ytcepgfcolmdnoaa.E
