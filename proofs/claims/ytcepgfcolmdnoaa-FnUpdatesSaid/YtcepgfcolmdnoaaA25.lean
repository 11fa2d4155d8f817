/- Walks through functions, by program out of the session's annotations. -/
import Derived.Test.YtcepgfcolmdnoaaA14
import Derived.Test.YtcepgfcolmdnoaaA24
namespace Go.Proofs.Ytcepgfcolmdnoaa.E
open Go Go.RowKit Go.Proofs
set_option linter.unusedVariables false
set_option linter.unusedSimpArgs false

def insP (c:Crk) (p:Pnd) (k:Nat):Bool:=isItem (p.ins.getD k (0,0)) && decide (rowIx c.rows (p.ins.getD k (0,0)).2<0) && !decide ((p.ins.getD k (0,0)).2 ∈ (p.ins.map (·.2)).take k)
def delP (c:Crk) (p:Pnd) (k:Nat):Bool:=decide (rowIx c.rows (p.del.getD k 0)≥0) && dupP p.del k
def pndN (c:Crk) (p:Pnd):Bool:=decide (p.ins.length≤20) && decide (p.del.length≤20) && decide (c.vals.length+p.ins.length≤64)
/-- Are they updates as they have to be? -/
def isPnd (c:Crk) (p:Pnd):Bool:=isCrk c && pndN c p && allK (insP c p) p.ins.length && allK (delP c p) p.del.length
theorem insP_at {c:Crk} {p:Pnd} {k:Nat} {x:Int × Int} (h:p.ins[k]? = some x):insP c p k=(isItem x && decide (rowIx c.rows x.2<0) && !decide (x.2 ∈ (p.ins.map (·.2)).take k)):=by rw [insP,getD_of h]
theorem delP_at {c:Crk} {p:Pnd} {k:Nat} {x:Int} (h:p.del[k]? = some x):delP c p k=(decide (rowIx c.rows x≥0) && !decide (x ∈ p.del.take k)):=by rw [delP,getD_of h,dupP_at h]
theorem pnd_no_ins {c:Crk} {p:Pnd} {k:Nat} (hk:k<p.ins.length) (h:insP c p k=false):isPnd c p=false:=by simp [isPnd,allK_not h hk]
theorem pnd_no_del {c:Crk} {p:Pnd} {k:Nat} (hk:k<p.del.length) (h:delP c p k=false):isPnd c p=false:=by simp [isPnd,allK_not h hk]
theorem ix_first {l : List Int} {k : Nat} {x : Int} (h : l[k]? = some x) : (rowIx l x = k) ↔ ¬ x ∈ l.take k := by
 constructor
 ·intro he hm
  obtain⟨j,hj,e⟩:=List.mem_iff_getElem.1 hm
  have hj1:j<k∧j<l.length:=by rw [List.length_take] at hj;omega
  have e':l[j]=x:=by rw [List.getElem_take] at e;exact e
  have hany:l.any (fun y=>decide (x=y))=true:=List.any_eq_true.2 ⟨x,List.mem_of_getElem? h,by simp⟩
  rw [rowIx,fIdx,if_pos hany] at he
  have:=List.not_of_lt_findIdx (p:=fun y=>decide (x=y)) (xs:=l) (i:=j) (by omega)
  rw [e'] at this
  simp at this
 ·intro hm
  exact fIdx_at (p:=fun y=>decide (x=y)) (by rw [List.any_eq_false];intro y hy;simp;intro e;subst e;exact hm hy) h (by simp)

set_option maxRecDepth 20000 in
set_option maxHeartbeats 2000000 in
theorem c_spec_IsPending (c : Crk) (p : Pnd) (hb : c.rows.length ≤ 1048576 ∧ p.ins.length ≤ 4194304) : EFn Try.prog 109 [.agg (crkC c), .agg (pndC p)] [] (fun r S => r = .c (.sc (.bool (isPnd c p))) ∧ S = []) := by
  refine E_fn Try.func109 rfl (Nat.le_of_ble_eq_true rfl) ?_
  refine E_G (n:=0) rfl ?_
  refine G_seq ?_
  refine G_region' (L:=[0,1,2]) rfl ?_
  refine x_box rfl rfl rfl rfl rfl ?_
  refine x_box rfl rfl rfl rfl rfl ?_
  refine xas ?_
  refine EOps_nil ?_
  refine G_seq ?_
  refine G_seq ?_
  refine g_tidy [0,1,2,3,4] ?_
  refine G_region' (L:=[0,1,2,3,4,5,6,7,8,9,10,11,12,13,14,15,16,17,18,19,20,21,22,23,24]) rfl ?_
  refine x_light rfl rfl rfl (L_load rfl (xb0 ty_27)) ?_
  refine x_call rfl rfl rfl rfl rfl ca_21 (c_spec_IsCracker c) ?_
  rintro r S ⟨rfl,rfl⟩
  refine x_pure rfl rfl rfl (L_not rfl rfl) ?_
  refine xmv ?_
  refine EOps_split 11 (b:=_) rfl (fun hg11=>?_) (fun hg11=>?_)
  · have hf : isPnd c p = false := by simp_all [isPnd]
    refine x_skip rfl rfl rfl ?_
    refine x_skip rfl rfl rfl ?_
    refine x_skip rfl rfl rfl ?_
    refine x_skip rfl rfl rfl ?_
    refine x_pure rfl rfl rfl (L_pick rfl rfl) ?_
    refine xmv ?_
    refine x_skip rfl rfl rfl ?_
    refine x_skip rfl rfl rfl ?_
    refine x_skip rfl rfl rfl ?_
    refine x_skip rfl rfl rfl ?_
    refine x_pure rfl rfl rfl (L_pick rfl rfl) ?_
    refine xmv ?_
    refine x_skip rfl rfl rfl ?_
    refine x_skip rfl rfl rfl ?_
    refine x_skip rfl rfl rfl ?_
    refine x_skip rfl rfl rfl ?_
    refine x_skip rfl rfl rfl ?_
    refine x_skip rfl rfl rfl ?_
    refine x_skip rfl rfl rfl ?_
    refine x_skip rfl rfl rfl ?_
    refine x_pure rfl rfl rfl (L_pick rfl rfl) ?_
    refine EOps_nil ?_
    refine G_cond rfl (fun hc32=>?_) (fun hc32=>?_)
    · have hf : isPnd c p = false := by
        first
          | assumption
          | (have hne : ¬ c.vals.length + p.ins.length ≤ 64 := by
               simp [pairs_len,ints_len] at hc32;omega
             simp [isPnd,pndN,hne])
      refine G_seq ?_
      refine G_region' (L:=[0]) rfl ?_
      refine xas ?_
      refine EOps_nil ?_
      refine G_ret ?_
      refine⟨_,[],rfl,rfl,bool_eq ?_,rfl⟩
      simp [hf]
    · exact Bool.noConfusion (hc32:true=false)
  · have hc : isCrk c = true := by simpa using hg11
    have hl:=crk_lens hc
    refine x_pure rfl rfl rfl (l_field rfl fo_58_0) ?_
    refine x_light rfl rfl rfl (L_load rfl (xb0 ty_56)) ?_
    refine x_pure rfl rfl rfl (l_len rfl sl_56) ?_
    refine x_pure rfl rfl rfl (L_bin rfl rfl rfl rfl) ?_
    refine x_pure rfl rfl rfl (L_pick rfl rfl) ?_
    refine xmv ?_
    refine EOps_split 17 (b:=_) rfl (fun hg17=>?_) (fun hg17=>?_)
    · have hne : ¬ p.ins.length ≤ 20 := by simp [pairs_len] at hg17; omega
      have hf:isPnd c p=false:=by simp [isPnd,pndN,hne]
      refine x_skip rfl rfl rfl ?_
      refine x_skip rfl rfl rfl ?_
      refine x_skip rfl rfl rfl ?_
      refine x_skip rfl rfl rfl ?_
      refine x_pure rfl rfl rfl (L_pick rfl rfl) ?_
      refine xmv ?_
      refine x_skip rfl rfl rfl ?_
      refine x_skip rfl rfl rfl ?_
      refine x_skip rfl rfl rfl ?_
      refine x_skip rfl rfl rfl ?_
      refine x_skip rfl rfl rfl ?_
      refine x_skip rfl rfl rfl ?_
      refine x_skip rfl rfl rfl ?_
      refine x_skip rfl rfl rfl ?_
      refine x_pure rfl rfl rfl (L_pick rfl rfl) ?_
      refine EOps_nil ?_
      refine G_cond rfl (fun hc32=>?_) (fun hc32=>?_)
      · have hf : isPnd c p = false := by
          first
            | assumption
            | (have hne : ¬ c.vals.length + p.ins.length ≤ 64 := by
                 simp [pairs_len,ints_len] at hc32;omega
               simp [isPnd,pndN,hne])
        refine G_seq ?_
        refine G_region' (L:=[0]) rfl ?_
        refine xas ?_
        refine EOps_nil ?_
        refine G_ret ?_
        refine⟨_,[],rfl,rfl,bool_eq ?_,rfl⟩
        simp [hf]
      · exact Bool.noConfusion (hc32:true=false)
    · refine x_pure rfl rfl rfl (l_field rfl fo_58_1) ?_
      refine x_light rfl rfl rfl (L_load rfl (xb0 ty_24)) ?_
      refine x_pure rfl rfl rfl (l_len rfl sl_24) ?_
      refine x_pure rfl rfl rfl (L_bin rfl rfl rfl rfl) ?_
      refine x_pure rfl rfl rfl (L_pick rfl rfl) ?_
      refine xmv ?_
      refine EOps_split 23 (b:=_) rfl (fun hg23=>?_) (fun hg23=>?_)
      · have hne : ¬ p.del.length ≤ 20 := by simp [ints_len] at hg23; omega
        have hf:isPnd c p=false:=by simp [isPnd,pndN,hne]
        refine x_skip rfl rfl rfl ?_
        refine x_skip rfl rfl rfl ?_
        refine x_skip rfl rfl rfl ?_
        refine x_skip rfl rfl rfl ?_
        refine x_skip rfl rfl rfl ?_
        refine x_skip rfl rfl rfl ?_
        refine x_skip rfl rfl rfl ?_
        refine x_skip rfl rfl rfl ?_
        refine x_pure rfl rfl rfl (L_pick rfl rfl) ?_
        refine EOps_nil ?_
        refine G_cond rfl (fun hc32=>?_) (fun hc32=>?_)
        · have hf : isPnd c p = false := by
            first
              | assumption
              | (have hne : ¬ c.vals.length + p.ins.length ≤ 64 := by
                   simp [pairs_len,ints_len] at hc32;omega
                 simp [isPnd,pndN,hne])
          refine G_seq ?_
          refine G_region' (L:=[0]) rfl ?_
          refine xas ?_
          refine EOps_nil ?_
          refine G_ret ?_
          refine⟨_,[],rfl,rfl,bool_eq ?_,rfl⟩
          simp [hf]
        · exact Bool.noConfusion (hc32:true=false)
      · refine x_pure rfl rfl rfl (l_field rfl fo_27_0) ?_
        refine x_light rfl rfl rfl (L_load rfl (xb0 ty_24)) ?_
        refine x_pure rfl rfl rfl (l_len rfl sl_24) ?_
        refine x_pure rfl rfl rfl (l_field rfl fo_58_0) ?_
        refine x_light rfl rfl rfl (L_load rfl (xb0 ty_56)) ?_
        refine x_pure rfl rfl rfl (l_len rfl sl_56) ?_
        refine x_pure rfl rfl rfl xb3 ?_
        refine x_pure rfl rfl rfl (L_bin rfl rfl rfl rfl) ?_
        refine x_pure rfl rfl rfl (L_pick rfl rfl) ?_
        refine EOps_nil ?_
        refine G_cond rfl (fun hc32=>?_) (fun hc32=>?_)
        · have hf : isPnd c p = false := by
            first
              | assumption
              | (have hne : ¬ c.vals.length + p.ins.length ≤ 64 := by
                   simp [pairs_len,ints_len] at hc32;omega
                 simp [isPnd,pndN,hne])
          refine G_seq ?_
          refine G_region' (L:=[0]) rfl ?_
          refine xas ?_
          refine EOps_nil ?_
          refine G_ret ?_
          refine⟨_,[],rfl,rfl,bool_eq ?_,rfl⟩
          simp [hf]
        · have hd20 : p.ins.length ≤ 20 ∧ p.del.length ≤ 20 := by
            simp [pairs_len,ints_len] at hg17 hg23
            omega
          have hn : pndN c p = true := by
            simp [pairs_len,ints_len] at hg17 hg23 hc32
            simp [pndN]
            omega
          refine G_skip ?_
          refine G_seq ?_
          refine G_seq ?_
          refine G_region' (L:=[0]) rfl ?_
          refine xas ?_
          refine EOps_nil ?_
          refine G_block ?_
          refine g_forD (α:=Nat) [0,1,2,3,32] (fun k=>[(5,.c (.sc (.int .i64 (k))))]) (fun _=>_) (fun k=>k≤p.ins.length∧allK (insP c p) k=true) (fun k=>p.ins.length - k) (0) ?_ (rfl) ⟨.inr rfl,trivial⟩ ?_
          · exact⟨Nat.zero_le _,rfl⟩
          rintro k ⟨hk,hall⟩
          refine G_seq ?_
          refine G_seq ?_
          refine G_region' (L:=[0,1,2,3,4]) rfl ?_
          refine xmv ?_
          refine x_pure rfl rfl rfl (l_field rfl fo_58_0) ?_
          refine x_light rfl rfl rfl (L_load rfl (xb0 ty_56)) ?_
          refine x_pure rfl rfl rfl (l_len rfl sl_56) ?_
          refine x_pure rfl rfl rfl (L_bin rfl rfl rfl rfl) ?_
          refine EOps_nil ?_
          refine G_cond rfl (fun hc37=>?_) (fun hc37=>?_)
          · have hc37' : k < (p.ins).length := by simpa [ints_len, bools_len, pairs_len, quads_len, quints_len] using hc37
            obtain⟨x,hx⟩:∃ x,(p.ins)[k]? = some x:=⟨_,List.getElem?_eq_getElem hc37'⟩
            have hP:=insP_at (c:=c) hx
            have hI:=ix_first (map_at hx)
            refine G_skip ?_
            refine G_seq ?_
            refine G_block ?_
            refine G_seq ?_
            refine G_region' (L:=[0,1,2,3,4,5,6]) rfl ?_
            refine x_pure rfl rfl rfl (l_field rfl fo_58_0) ?_
            refine x_light rfl rfl rfl (L_load rfl (xb0 ty_56)) ?_
            refine xmv ?_
            refine x_pure rfl rfl rfl (L_index rfl rfl (by first|exact i_ro sl_56 ty_60|exact i_sl sl_56 ty_60)) ?_
            refine x_light rfl rfl rfl (L_load rfl (xb0 ty_60)) ?_
            refine x_alloc rfl rfl rfl rfl za_60 ?_
            refine EOps_go rfl rfl (EOp_store rfl rfl rfl (xb1 ty_60) ?_)
            refine EOps_nil ?_
            refine G_seq ?_
            refine g_tidy [0,1,2,3,4,5,6,32,37,62] ?_
            refine G_region' (L:=[0,1,2,3,4,5,6,7,8,9,10,11,12,13,14,15,16,17]) rfl ?_
            refine x_light rfl rfl rfl (L_load rfl (xb0 ty_60)) ?_
            refine x_call rfl rfl rfl rfl rfl ca_174 (c_spec_IsItem x) ?_
            rintro r S ⟨rfl,rfl⟩
            refine x_pure rfl rfl rfl (L_not rfl rfl) ?_
            refine xmv ?_
            refine EOps_split 48 (b:=_) rfl (fun hg48=>?_) (fun hg48=>?_)
            · refine x_skip rfl rfl rfl ?_
              refine x_skip rfl rfl rfl ?_
              refine x_skip rfl rfl rfl ?_
              refine x_skip rfl rfl rfl ?_
              refine x_skip rfl rfl rfl ?_
              refine x_pure rfl rfl rfl (L_pick rfl rfl) ?_
              refine xmv ?_
              refine x_skip rfl rfl rfl ?_
              refine x_skip rfl rfl rfl ?_
              refine x_skip rfl rfl rfl ?_
              refine x_skip rfl rfl rfl ?_
              refine x_skip rfl rfl rfl ?_
              refine x_skip rfl rfl rfl ?_
              refine x_pure rfl rfl rfl (L_pick rfl rfl) ?_
              refine EOps_nil ?_
              refine G_cond rfl (fun hc62=>?_) (fun hc62=>?_)
              · have hf := pnd_no_ins (c := c) (p := p) (k := k) (by omega) (by
                  rw [hP]
                  first
                    | (simp only [Bool.not_eq_true'] at hg48;simp [hg48];done)
                    | (simp at hg55;simp;omega)
                    | (have h0 : ¬ rowIx (p.ins.map (·.2)) x.2 = k := by simpa [insIx] using hc62
                       have h1:x.2 ∈ (p.ins.map (·.2)).take k:=Classical.byContradiction fun h=>h0 (hI.2 h)
                       rw [decide_eq_true h1];simp))
                refine G_seq ?_
                refine G_region' (L:=[0]) rfl ?_
                refine xas ?_
                refine EOps_nil ?_
                refine G_ret ?_
                refine⟨_,[],rfl,rfl,bool_eq ?_,rfl⟩
                simp [hf]
              · exact Bool.noConfusion (hc62:true=false)
            · refine x_light rfl rfl rfl (L_load rfl (xb2 ty_27)) ?_
              refine x_pure rfl rfl rfl (l_field rfl fo_60_1) ?_
              refine x_light rfl rfl rfl (L_load rfl (xb0 ty_3)) ?_
              refine x_call rfl rfl rfl rfl rfl ca_46 (c_spec_FindRow c x.2 (by omega)) ?_
              rintro r S ⟨rfl,rfl⟩
              refine x_pure rfl rfl rfl (L_bin rfl rfl rfl rfl) ?_
              refine x_pure rfl rfl rfl (L_pick rfl rfl) ?_
              refine xmv ?_
              refine EOps_split 55 (b:=_) rfl (fun hg55=>?_) (fun hg55=>?_)
              · refine x_skip rfl rfl rfl ?_
                refine x_skip rfl rfl rfl ?_
                refine x_skip rfl rfl rfl ?_
                refine x_skip rfl rfl rfl ?_
                refine x_skip rfl rfl rfl ?_
                refine x_skip rfl rfl rfl ?_
                refine x_pure rfl rfl rfl (L_pick rfl rfl) ?_
                refine EOps_nil ?_
                refine G_cond rfl (fun hc62=>?_) (fun hc62=>?_)
                · have hf := pnd_no_ins (c := c) (p := p) (k := k) (by omega) (by
                    rw [hP]
                    first
                      | (simp only [Bool.not_eq_true'] at hg48;simp [hg48];done)
                      | (simp at hg55;simp;omega)
                      | (have h0 : ¬ rowIx (p.ins.map (·.2)) x.2 = k := by simpa [insIx] using hc62
                         have h1:x.2 ∈ (p.ins.map (·.2)).take k:=Classical.byContradiction fun h=>h0 (hI.2 h)
                         rw [decide_eq_true h1];simp))
                  refine G_seq ?_
                  refine G_region' (L:=[0]) rfl ?_
                  refine xas ?_
                  refine EOps_nil ?_
                  refine G_ret ?_
                  refine⟨_,[],rfl,rfl,bool_eq ?_,rfl⟩
                  simp [hf]
                · exact Bool.noConfusion (hc62:true=false)
              · refine x_light rfl rfl rfl (L_load rfl (xb2 ty_58)) ?_
                refine x_pure rfl rfl rfl (l_field rfl fo_60_1) ?_
                refine x_light rfl rfl rfl (L_load rfl (xb0 ty_3)) ?_
                refine x_call rfl rfl rfl rfl rfl ca_115 (c_spec_l11HasRow p x.2 hb.2) ?_
                rintro r S ⟨rfl,rfl⟩
                refine xmv ?_
                refine x_pure rfl rfl rfl (L_bin rfl rfl rfl rfl) ?_
                refine x_pure rfl rfl rfl (L_pick rfl rfl) ?_
                refine EOps_nil ?_
                refine G_cond rfl (fun hc62=>?_) (fun hc62=>?_)
                · have hf := pnd_no_ins (c := c) (p := p) (k := k) (by omega) (by
                    rw [hP]
                    first
                      | (simp only [Bool.not_eq_true'] at hg48;simp [hg48];done)
                      | (simp at hg55;simp;omega)
                      | (have h0 : ¬ rowIx (p.ins.map (·.2)) x.2 = k := by simpa [insIx] using hc62
                         have h1:x.2 ∈ (p.ins.map (·.2)).take k:=Classical.byContradiction fun h=>h0 (hI.2 h)
                         rw [decide_eq_true h1];simp))
                  refine G_seq ?_
                  refine G_region' (L:=[0]) rfl ?_
                  refine xas ?_
                  refine EOps_nil ?_
                  refine G_ret ?_
                  refine⟨_,[],rfl,rfl,bool_eq ?_,rfl⟩
                  simp [hf]
                · refine G_skip ?_
                  refine G_region' (L:=[0,1,2]) rfl ?_
                  refine xmv ?_
                  refine x_pure rfl rfl rfl xb3 ?_
                  refine xas ?_
                  refine EOps_nil ?_
                  refine⟨[0,1],rfl,k+1,?_,?_,rfl,⟨.inr rfl,trivial⟩,⟨.inr rfl,.inr rfl,.inr rfl,.inr rfl,.inr rfl,trivial⟩⟩
                  · first|omega|(dsimp only;omega)|(simp;omega)
                  · refine ⟨by omega, allK_step hall ?_⟩
                    have h0:rowIx (p.ins.map (·.2)) x.2=k:=by simpa [insIx] using hc62
                    have h1:=hI.1 h0
                    have h2:isItem x=true:=by simpa using hg48
                    have h3:rowIx c.rows x.2<0:=by simp at hg55;omega
                    rw [hP,h2,decide_eq_true h3,decide_eq_false h1];rfl
          · have hins : allK (insP c p) p.ins.length = true := by
              have:p.ins.length≤k:=by simpa [pairs_len] using hc37
              rwa [show k=p.ins.length by omega] at hall
            refine G_exit ?_
            refine G_seq ?_
            refine G_seq ?_
            refine G_region' (L:=[0]) rfl ?_
            refine xas ?_
            refine EOps_nil ?_
            refine G_block ?_
            refine g_for (α:=Nat) [0,1,2,3,5,6,32,37,62] (fun k=>[(7,.c (.sc (.int .i64 (k))))]) (fun _=>_) (fun k=>k≤p.del.length∧allK (delP c p) k=true) (fun k=>p.del.length - k) (0) ?_ (rfl) ⟨.inr rfl,trivial⟩ ?_
            · exact⟨Nat.zero_le _,rfl⟩
            rintro k ⟨hk,hall⟩
            refine G_seq ?_
            refine G_seq ?_
            refine G_region' (L:=[0,1,2,3,4]) rfl ?_
            refine xmv ?_
            refine x_pure rfl rfl rfl (l_field rfl fo_58_1) ?_
            refine x_light rfl rfl rfl (L_load rfl (xb0 ty_24)) ?_
            refine x_pure rfl rfl rfl (l_len rfl sl_24) ?_
            refine x_pure rfl rfl rfl (L_bin rfl rfl rfl rfl) ?_
            refine EOps_nil ?_
            refine G_cond rfl (fun hc67=>?_) (fun hc67=>?_)
            · have hc67' : k < (p.del).length := by simpa [ints_len, bools_len, pairs_len, quads_len, quints_len] using hc67
              obtain⟨x,hx⟩:∃ x,(p.del)[k]? = some x:=⟨_,List.getElem?_eq_getElem hc67'⟩
              have hP:=delP_at (c:=c) hx
              refine G_skip ?_
              refine G_seq ?_
              refine G_block ?_
              refine G_seq ?_
              refine g_tidy [0,1,2,3,4,5,6,7,32,37,62,67,89] ?_
              refine G_drawT mixed ?_
              refine t_light 0 rfl rfl rfl (L_load rfl (xb0 ty_27)) ?_
              refine t_old 1 rfl rfl rfl (l_field rfl fo_58_1) ?_
              refine t_light 2 rfl rfl rfl (L_load rfl (xb0 ty_24)) ?_
              refine t_old 3 rfl rfl rfl (L_move rfl) ?_
              refine t_old 4 rfl rfl rfl (L_index rfl rfl (by first|exact i_ro sl_24 ty_3|exact i_sl sl_24 ty_3)) ?_
              refine t_light 5 rfl rfl rfl (L_load rfl (xb0 ty_3)) ?_
              refine t_call 6 rfl rfl rfl rfl rfl ca_46 (c_spec_FindRow c x (by omega)) ?_
              rintro r S ⟨rfl,rfl⟩
              refine t_old 7 rfl rfl rfl (L_bin rfl rfl rfl rfl) ?_
              refine t_old 8 rfl rfl rfl (L_move rfl) ?_
              refine T_split 78 (b:=_) rfl rfl (fun hg78=>?_) (fun hg78=>?_)
              · refine t_skip 9 rfl rfl rfl ?_
                refine t_skip 10 rfl rfl rfl ?_
                refine t_skip 11 rfl rfl rfl ?_
                refine t_skip 12 rfl rfl rfl ?_
                refine t_skip 13 rfl rfl rfl ?_
                refine t_skip 14 rfl rfl rfl ?_
                refine t_skip 15 rfl rfl rfl ?_
                refine t_skip 16 rfl rfl rfl ?_
                refine t_skip 17 rfl rfl rfl ?_
                refine t_skip 18 rfl rfl rfl ?_
                refine t_old 19 rfl rfl rfl (L_pick rfl rfl) ?_
                refine T_done (by kernel_rfl) ?_
                refine G_cond rfl (fun hc89=>?_) (fun hc89=>?_)
                · have hf := pnd_no_del (c := c) (p := p) (k := k) (by omega) (by
                    rw [hP]
                    first
                      | (simp at hg78;simp;omega)
                      | (simp at hc89;simp [hc89]))
                  refine G_seq ?_
                  refine G_region' (L:=[0]) rfl ?_
                  refine xas ?_
                  refine EOps_nil ?_
                  refine G_ret ?_
                  refine⟨_,[],rfl,rfl,bool_eq ?_,rfl⟩
                  simp [hf]
                · exact Bool.noConfusion (hc89:true=false)
              · refine t_old 9 rfl rfl rfl (l_field rfl fo_58_1) ?_
                refine t_light 10 rfl rfl rfl (L_load rfl (xb0 ty_24)) ?_
                refine t_old 11 rfl rfl rfl (L_move rfl) ?_
                refine t_old 12 rfl rfl rfl (Pure.as (by first|exact L_slice_ro (l:=0) (h:=k) rfl sl_24 ty_3 rfl rfl rfl (by first|omega|(simp [ints_len,pairs_len,quads_len,quints_len,bools_len];omega)|(simp [ints_len,pairs_len,quads_len,quints_len,bools_len] at *;omega)) (by first|omega|(simp [ints_len,pairs_len,quads_len,quints_len,bools_len];omega)|(simp [ints_len,pairs_len,quads_len,quints_len,bools_len] at *;omega)) (by first|exact fun r hr=>(ints_row _ r hr).1|exact fun r hr=>(pairs_row _ r hr).1|exact fun r hr=>(quads_row _ r hr).1|exact fun r hr=>(quints_row _ r hr).1|exact fun r hr=>(bools_row _ r hr).1)|exact L_slice_sl (l:=0) (h:=k) rfl sl_24 ty_3 rfl (by first|rfl|assumption) (by first|assumption|exact ints_len _|exact pairs_len _|exact quads_len _|exact quints_len _|exact bools_len _|(simp [ints_len,bools_len,pairs_len,quads_len,quints_len,part_len, *];done)|(simp [ints_len,bools_len,pairs_len,quads_len,quints_len];omega)|rfl) rfl rfl (by first|omega|(simp [ints_len,pairs_len,quads_len,quints_len,bools_len];omega)|(simp [ints_len,pairs_len,quads_len,quints_len,bools_len] at *;omega)) (by first|omega|(simp [ints_len,pairs_len,quads_len,quints_len,bools_len];omega)|(simp [ints_len,pairs_len,quads_len,quints_len,bools_len] at *;omega))) (y':=.c (.ro (ints (p.del.take k)))) (by first|(simp [ints_cut,pairs_cut,bools_cut,ints_take,pairs_take,bools_take];done)|(simp [ints_cut,pairs_cut,bools_cut,ints_take,pairs_take,bools_take];rfl))) ?_
                refine t_old 13 rfl rfl rfl (l_field rfl fo_58_1) ?_
                refine t_light 14 rfl rfl rfl (L_load rfl (xb0 ty_24)) ?_
                refine t_old 15 rfl rfl rfl (L_move rfl) ?_
                refine t_old 16 rfl rfl rfl (L_index rfl rfl (by first|exact i_ro sl_24 ty_3|exact i_sl sl_24 ty_3)) ?_
                refine t_light 17 rfl rfl rfl (L_load rfl (xb0 ty_3)) ?_
                refine t_call 18 rfl rfl rfl rfl rfl ca_98 (c_spec_l4Has (p.del.take k) x) ?_
                rintro r S ⟨rfl,rfl⟩
                refine t_old 19 rfl rfl rfl (L_pick rfl rfl) ?_
                refine T_done (by kernel_rfl) ?_
                refine G_cond rfl (fun hc89=>?_) (fun hc89=>?_)
                · have hf := pnd_no_del (c := c) (p := p) (k := k) (by omega) (by
                    rw [hP]
                    first
                      | (simp at hg78;simp;omega)
                      | (simp at hc89;simp [hc89]))
                  refine G_seq ?_
                  refine G_region' (L:=[0]) rfl ?_
                  refine xas ?_
                  refine EOps_nil ?_
                  refine G_ret ?_
                  refine⟨_,[],rfl,rfl,bool_eq ?_,rfl⟩
                  simp [hf]
                · refine G_skip ?_
                  refine G_region' (L:=[0,1,2]) rfl ?_
                  refine xmv ?_
                  refine x_pure rfl rfl rfl xb3 ?_
                  refine xas ?_
                  refine EOps_nil ?_
                  refine⟨k+1,?_,?_,rfl,⟨.inr rfl,trivial⟩,⟨.inr rfl,.inr rfl,.inr rfl,.inr rfl,.inr rfl,.inr rfl,.inr rfl,.inr rfl,.inr rfl,trivial⟩⟩
                  · first|omega|(dsimp only;omega)|(simp;omega)
                  · refine ⟨by omega, allK_step hall ?_⟩
                    have h1:rowIx c.rows x≥0:=by simp at hg78;omega
                    have h2:¬ x ∈ p.del.take k:=by simpa using hc89
                    rw [hP,decide_eq_true h1,decide_eq_false h2];rfl
            · have hf : isPnd c p = true := by
                have:p.del.length≤k:=by simpa [ints_len] using hc67
                rw [show k=p.del.length by omega] at hall
                simp only [isPnd,hc,hn,hins,hall,Bool.and_self]
              refine G_exit ?_
              refine G_seq ?_
              refine G_region' (L:=[0]) rfl ?_
              refine xas ?_
              refine EOps_nil ?_
              refine G_ret ?_
              refine⟨_,[],rfl,rfl,bool_eq ?_,rfl⟩
              simp [hf]

end Go.Proofs.Ytcepgfcolmdnoaa.E
