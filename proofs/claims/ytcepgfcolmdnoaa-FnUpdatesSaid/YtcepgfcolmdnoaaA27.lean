/- Walks through functions, by program out of the session's annotations. -/
import Derived.Test.YtcepgfcolmdnoaaA26
namespace Go.Proofs.Ytcepgfcolmdnoaa.E
open Go Go.RowKit Go.Proofs
set_option linter.unusedVariables false
set_option linter.unusedSimpArgs false

set_option maxRecDepth 20000 in
set_option maxHeartbeats 2000000 in
theorem c_impl_IsPending (c : Crk) (p : Pnd) (hb : c.rows.length ≤ 1048576 ∧ p.ins.length ≤ 4194304) : EFn Try.prog 39 [.agg (crkC c), .agg (pndC p)] [] (fun r S => r = .c (.sc (.bool (isPnd c p))) ∧ S = []) := by
  refine E_fn Try.func39 rfl (Nat.le_of_ble_eq_true rfl) ?_
  refine E_G (n:=0) rfl ?_
  refine G_seq ?_
  refine G_region' (L:=[0,1,2]) rfl ?_
  refine x_box rfl rfl rfl rfl rfl ?_
  refine x_box rfl rfl rfl rfl rfl ?_
  refine xas ?_
  refine EOps_nil ?_
  refine G_seq ?_
  refine G_seq ?_
  refine g_tidy [0,1,2,3,4] ?_
  refine G_region' (L:=[0,1,2,3,4,5,6,7,8,9,10,11,12,13,14,15,16,17,18,19,20,21,22,23,24]) rfl ?_
  refine x_light rfl rfl rfl (L_load rfl (xb0 ty_27)) ?_
  refine x_call rfl rfl rfl rfl rfl ca_28 (c_impl_IsCracker c) ?_
  rintro r S ⟨rfl,rfl⟩
  refine x_pure rfl rfl rfl (L_not rfl rfl) ?_
  refine xmv ?_
  refine EOps_split 12 (b:=_) rfl (fun hg12=>?_) (fun hg12=>?_)
  · have hf : isPnd c p = false := by simp_all [isPnd]
    refine x_skip rfl rfl rfl ?_
    refine x_skip rfl rfl rfl ?_
    refine x_skip rfl rfl rfl ?_
    refine x_skip rfl rfl rfl ?_
    refine x_pure rfl rfl rfl (L_pick rfl rfl) ?_
    refine xmv ?_
    refine x_skip rfl rfl rfl ?_
    refine x_skip rfl rfl rfl ?_
    refine x_skip rfl rfl rfl ?_
    refine x_skip rfl rfl rfl ?_
    refine x_pure rfl rfl rfl (L_pick rfl rfl) ?_
    refine xmv ?_
    refine x_skip rfl rfl rfl ?_
    refine x_skip rfl rfl rfl ?_
    refine x_skip rfl rfl rfl ?_
    refine x_skip rfl rfl rfl ?_
    refine x_skip rfl rfl rfl ?_
    refine x_skip rfl rfl rfl ?_
    refine x_skip rfl rfl rfl ?_
    refine x_skip rfl rfl rfl ?_
    refine x_pure rfl rfl rfl (L_pick rfl rfl) ?_
    refine EOps_nil ?_
    refine G_cond rfl (fun hc33=>?_) (fun hc33=>?_)
    · have hf : isPnd c p = false := by
        first
          | assumption
          | (have hne : ¬ c.vals.length + p.ins.length ≤ 64 := by
               simp [pairs_len,ints_len] at hc33;omega
             simp [isPnd,pndN,hne])
      refine G_seq ?_
      refine G_region' (L:=[0]) rfl ?_
      refine xas ?_
      refine EOps_nil ?_
      refine G_ret ?_
      refine⟨_,[],rfl,rfl,bool_eq ?_,rfl⟩
      simp [hf]
    · exact Bool.noConfusion (hc33:true=false)
  · have hc : isCrk c = true := by simpa using hg12
    have hl:=crk_lens hc
    refine x_pure rfl rfl rfl (l_field rfl fo_58_0) ?_
    refine x_light rfl rfl rfl (L_load rfl (xb0 ty_56)) ?_
    refine x_pure rfl rfl rfl (l_len rfl sl_56) ?_
    refine x_pure rfl rfl rfl (L_bin rfl rfl rfl rfl) ?_
    refine x_pure rfl rfl rfl (L_pick rfl rfl) ?_
    refine xmv ?_
    refine EOps_split 18 (b:=_) rfl (fun hg18=>?_) (fun hg18=>?_)
    · have hne : ¬ p.ins.length ≤ 20 := by simp [pairs_len] at hg18; omega
      have hf:isPnd c p=false:=by simp [isPnd,pndN,hne]
      refine x_skip rfl rfl rfl ?_
      refine x_skip rfl rfl rfl ?_
      refine x_skip rfl rfl rfl ?_
      refine x_skip rfl rfl rfl ?_
      refine x_pure rfl rfl rfl (L_pick rfl rfl) ?_
      refine xmv ?_
      refine x_skip rfl rfl rfl ?_
      refine x_skip rfl rfl rfl ?_
      refine x_skip rfl rfl rfl ?_
      refine x_skip rfl rfl rfl ?_
      refine x_skip rfl rfl rfl ?_
      refine x_skip rfl rfl rfl ?_
      refine x_skip rfl rfl rfl ?_
      refine x_skip rfl rfl rfl ?_
      refine x_pure rfl rfl rfl (L_pick rfl rfl) ?_
      refine EOps_nil ?_
      refine G_cond rfl (fun hc33=>?_) (fun hc33=>?_)
      · have hf : isPnd c p = false := by
          first
            | assumption
            | (have hne : ¬ c.vals.length + p.ins.length ≤ 64 := by
                 simp [pairs_len,ints_len] at hc33;omega
               simp [isPnd,pndN,hne])
        refine G_seq ?_
        refine G_region' (L:=[0]) rfl ?_
        refine xas ?_
        refine EOps_nil ?_
        refine G_ret ?_
        refine⟨_,[],rfl,rfl,bool_eq ?_,rfl⟩
        simp [hf]
      · exact Bool.noConfusion (hc33:true=false)
    · refine x_pure rfl rfl rfl (l_field rfl fo_58_1) ?_
      refine x_light rfl rfl rfl (L_load rfl (xb0 ty_24)) ?_
      refine x_pure rfl rfl rfl (l_len rfl sl_24) ?_
      refine x_pure rfl rfl rfl (L_bin rfl rfl rfl rfl) ?_
      refine x_pure rfl rfl rfl (L_pick rfl rfl) ?_
      refine xmv ?_
      refine EOps_split 24 (b:=_) rfl (fun hg24=>?_) (fun hg24=>?_)
      · have hne : ¬ p.del.length ≤ 20 := by simp [ints_len] at hg24; omega
        have hf:isPnd c p=false:=by simp [isPnd,pndN,hne]
        refine x_skip rfl rfl rfl ?_
        refine x_skip rfl rfl rfl ?_
        refine x_skip rfl rfl rfl ?_
        refine x_skip rfl rfl rfl ?_
        refine x_skip rfl rfl rfl ?_
        refine x_skip rfl rfl rfl ?_
        refine x_skip rfl rfl rfl ?_
        refine x_skip rfl rfl rfl ?_
        refine x_pure rfl rfl rfl (L_pick rfl rfl) ?_
        refine EOps_nil ?_
        refine G_cond rfl (fun hc33=>?_) (fun hc33=>?_)
        · have hf : isPnd c p = false := by
            first
              | assumption
              | (have hne : ¬ c.vals.length + p.ins.length ≤ 64 := by
                   simp [pairs_len,ints_len] at hc33;omega
                 simp [isPnd,pndN,hne])
          refine G_seq ?_
          refine G_region' (L:=[0]) rfl ?_
          refine xas ?_
          refine EOps_nil ?_
          refine G_ret ?_
          refine⟨_,[],rfl,rfl,bool_eq ?_,rfl⟩
          simp [hf]
        · exact Bool.noConfusion (hc33:true=false)
      · refine x_pure rfl rfl rfl (l_field rfl fo_27_0) ?_
        refine x_light rfl rfl rfl (L_load rfl (xb0 ty_24)) ?_
        refine x_pure rfl rfl rfl (l_len rfl sl_24) ?_
        refine x_pure rfl rfl rfl (l_field rfl fo_58_0) ?_
        refine x_light rfl rfl rfl (L_load rfl (xb0 ty_56)) ?_
        refine x_pure rfl rfl rfl (l_len rfl sl_56) ?_
        refine x_pure rfl rfl rfl xb3 ?_
        refine x_pure rfl rfl rfl (L_bin rfl rfl rfl rfl) ?_
        refine x_pure rfl rfl rfl (L_pick rfl rfl) ?_
        refine EOps_nil ?_
        refine G_cond rfl (fun hc33=>?_) (fun hc33=>?_)
        · have hf : isPnd c p = false := by
            first
              | assumption
              | (have hne : ¬ c.vals.length + p.ins.length ≤ 64 := by
                   simp [pairs_len,ints_len] at hc33;omega
                 simp [isPnd,pndN,hne])
          refine G_seq ?_
          refine G_region' (L:=[0]) rfl ?_
          refine xas ?_
          refine EOps_nil ?_
          refine G_ret ?_
          refine⟨_,[],rfl,rfl,bool_eq ?_,rfl⟩
          simp [hf]
        · have hd20 : p.ins.length ≤ 20 ∧ p.del.length ≤ 20 := by
            simp [pairs_len,ints_len] at hg18 hg24
            omega
          have hn : pndN c p = true := by
            simp [pairs_len,ints_len] at hg18 hg24 hc33
            simp [pndN]
            omega
          refine G_skip ?_
          refine G_seq ?_
          refine G_seq ?_
          refine G_region' (L:=[0,1,2,3]) rfl ?_
          refine x_pure rfl rfl rfl (l_field rfl fo_58_0) ?_
          refine x_light rfl rfl rfl (L_load rfl (xb0 ty_56)) ?_
          refine x_pure rfl rfl rfl (l_len rfl sl_56) ?_
          refine xmv ?_
          refine EOps_nil ?_
          refine G_block ?_
          refine g_forD (α:=Nat) [0,1,2,3,33,35,36] (fun k=>[(37,.c (.sc (.int .i64 (k))))]) (fun _=>_) (fun k=>k≤p.ins.length∧allK (insP c p) k=true) (fun k=>p.ins.length - k) (0) ?_ (rfl) ⟨.inr rfl,trivial⟩ ?_
          · exact⟨Nat.zero_le _,rfl⟩
          rintro k ⟨hk,hall⟩
          refine G_seq ?_
          refine G_region' (L:=[0]) rfl ?_
          refine x_pure rfl rfl rfl (L_bin rfl rfl rfl rfl) ?_
          refine EOps_nil ?_
          refine G_seq ?_
          refine G_cond rfl (fun hc38=>?_) (fun hc38=>?_)
          · have hc38' : k < (p.ins).length := by simpa [ints_len, bools_len, pairs_len, quads_len, quints_len] using hc38
            obtain⟨x,hx⟩:∃ x,(p.ins)[k]? = some x:=⟨_,List.getElem?_eq_getElem hc38'⟩
            have hP:=insP_at (c:=c) hx
            have hM:((p.ins.take k).map (·.2)).any (fun y=>decide (y=x.2))=decide (x.2 ∈ (p.ins.map (·.2)).take k):=by rw [any_mem,List.map_take]
            refine G_skip ?_
            refine G_seq ?_
            refine G_block ?_
            refine G_seq ?_
            refine G_region' (L:=[0,1,2,3,4,5]) rfl ?_
            refine xmv ?_
            refine x_pure rfl rfl rfl (L_index rfl rfl (by first|exact i_ro sl_56 ty_60|exact i_sl sl_56 ty_60)) ?_
            refine x_light rfl rfl rfl (L_load rfl (xb0 ty_60)) ?_
            refine x_alloc rfl rfl rfl rfl za_60 ?_
            refine xas ?_
            refine EOps_go rfl rfl (EOp_store rfl rfl rfl (xb1 ty_60) ?_)
            refine EOps_nil ?_
            refine G_seq ?_
            refine g_tidy [0,1,2,3,4,5,6,33,35,36,37,38,59] ?_
            refine G_region' (L:=[0,1,2,3,4,5,6,7,8,9,10,11,12,13,14,15,16,17]) rfl ?_
            refine x_light rfl rfl rfl (L_load rfl (xb0 ty_60)) ?_
            refine x_call rfl rfl rfl rfl rfl ca_116 (c_impl_IsItem x) ?_
            rintro r S ⟨rfl,rfl⟩
            refine x_pure rfl rfl rfl (L_not rfl rfl) ?_
            refine xmv ?_
            refine EOps_split 45 (b:=_) rfl (fun hg45=>?_) (fun hg45=>?_)
            · refine x_skip rfl rfl rfl ?_
              refine x_skip rfl rfl rfl ?_
              refine x_skip rfl rfl rfl ?_
              refine x_skip rfl rfl rfl ?_
              refine x_skip rfl rfl rfl ?_
              refine x_pure rfl rfl rfl (L_pick rfl rfl) ?_
              refine xmv ?_
              refine x_skip rfl rfl rfl ?_
              refine x_skip rfl rfl rfl ?_
              refine x_skip rfl rfl rfl ?_
              refine x_skip rfl rfl rfl ?_
              refine x_skip rfl rfl rfl ?_
              refine x_skip rfl rfl rfl ?_
              refine x_pure rfl rfl rfl (L_pick rfl rfl) ?_
              refine EOps_nil ?_
              refine G_cond rfl (fun hc59=>?_) (fun hc59=>?_)
              · have hf := pnd_no_ins (c := c) (p := p) (k := k) (by omega) (by
                  rw [hP]
                  first
                    | (simp only [Bool.not_eq_true'] at hg45;simp [hg45];done)
                    | (simp at hg52;simp;omega)
                    | (have h1 : ((p.ins.take k).map (·.2)).any (fun y => decide (y = x.2)) = true := hc59
                       rw [hM] at h1
                       rw [h1];simp))
                refine G_seq ?_
                refine G_region' (L:=[0]) rfl ?_
                refine xas ?_
                refine EOps_nil ?_
                refine G_ret ?_
                refine⟨_,[],rfl,rfl,bool_eq ?_,rfl⟩
                simp [hf]
              · exact Bool.noConfusion (hc59:true=false)
            · refine x_light rfl rfl rfl (L_load rfl (xb2 ty_27)) ?_
              refine x_pure rfl rfl rfl (l_field rfl fo_60_1) ?_
              refine x_light rfl rfl rfl (L_load rfl (xb0 ty_3)) ?_
              refine x_call rfl rfl rfl rfl rfl ca_117 (c_impl_FindRow c x.2) ?_
              rintro r S ⟨rfl,rfl⟩
              refine x_pure rfl rfl rfl (L_bin rfl rfl rfl rfl) ?_
              refine x_pure rfl rfl rfl (L_pick rfl rfl) ?_
              refine xmv ?_
              refine EOps_split 52 (b:=_) rfl (fun hg52=>?_) (fun hg52=>?_)
              · refine x_skip rfl rfl rfl ?_
                refine x_skip rfl rfl rfl ?_
                refine x_skip rfl rfl rfl ?_
                refine x_skip rfl rfl rfl ?_
                refine x_skip rfl rfl rfl ?_
                refine x_skip rfl rfl rfl ?_
                refine x_pure rfl rfl rfl (L_pick rfl rfl) ?_
                refine EOps_nil ?_
                refine G_cond rfl (fun hc59=>?_) (fun hc59=>?_)
                · have hf := pnd_no_ins (c := c) (p := p) (k := k) (by omega) (by
                    rw [hP]
                    first
                      | (simp only [Bool.not_eq_true'] at hg45;simp [hg45];done)
                      | (simp at hg52;simp;omega)
                      | (have h1 : ((p.ins.take k).map (·.2)).any (fun y => decide (y = x.2)) = true := hc59
                         rw [hM] at h1
                         rw [h1];simp))
                  refine G_seq ?_
                  refine G_region' (L:=[0]) rfl ?_
                  refine xas ?_
                  refine EOps_nil ?_
                  refine G_ret ?_
                  refine⟨_,[],rfl,rfl,bool_eq ?_,rfl⟩
                  simp [hf]
                · exact Bool.noConfusion (hc59:true=false)
              · refine x_pure rfl rfl rfl (l_field rfl fo_58_0) ?_
                refine x_light rfl rfl rfl (L_load rfl (xb0 ty_56)) ?_
                refine xmv ?_
                refine x_pure rfl rfl rfl (Pure.as (by first|exact L_slice_ro (l:=0) (h:=k) rfl sl_56 ty_60 rfl rfl rfl (by first|omega|(simp [ints_len,pairs_len,quads_len,quints_len,bools_len];omega)|(simp [ints_len,pairs_len,quads_len,quints_len,bools_len] at *;omega)) (by first|omega|(simp [ints_len,pairs_len,quads_len,quints_len,bools_len];omega)|(simp [ints_len,pairs_len,quads_len,quints_len,bools_len] at *;omega)) (by first|exact fun r hr=>(ints_row _ r hr).1|exact fun r hr=>(pairs_row _ r hr).1|exact fun r hr=>(quads_row _ r hr).1|exact fun r hr=>(quints_row _ r hr).1|exact fun r hr=>(bools_row _ r hr).1)|exact L_slice_sl (l:=0) (h:=k) rfl sl_56 ty_60 rfl (by first|rfl|assumption) (by first|assumption|exact ints_len _|exact pairs_len _|exact quads_len _|exact quints_len _|exact bools_len _|(simp [ints_len,bools_len,pairs_len,quads_len,quints_len,part_len, *];done)|(simp [ints_len,bools_len,pairs_len,quads_len,quints_len];omega)|rfl) rfl rfl (by first|omega|(simp [ints_len,pairs_len,quads_len,quints_len,bools_len];omega)|(simp [ints_len,pairs_len,quads_len,quints_len,bools_len] at *;omega)) (by first|omega|(simp [ints_len,pairs_len,quads_len,quints_len,bools_len];omega)|(simp [ints_len,pairs_len,quads_len,quints_len,bools_len] at *;omega))) (y':=.c (.ro (pairs (p.ins.take k)))) (by first|(simp [ints_cut,pairs_cut,bools_cut,ints_take,pairs_take,bools_take];done)|(simp [ints_cut,pairs_cut,bools_cut,ints_take,pairs_take,bools_take];rfl))) ?_
                refine x_pure rfl rfl rfl (L_func rfl rfl) ?_
                refine EOps_go rfl rfl (xe2 rfl rfl rfl ca_118 ((c_slices_ContainsFunc___impl_Item_impl_Item_ (p.ins.take k) (fun y=>decide (y=x.2)) 119 [.bp 2 0] _ ca_119 (fun y _=>c_impl_IsPending_1 _ 2 x.1 x.2 y rfl))) ?_)
                rintro r S ⟨rfl,rfl⟩
                refine x_pure rfl rfl rfl (L_pick rfl rfl) ?_
                refine EOps_nil ?_
                refine G_cond rfl (fun hc59=>?_) (fun hc59=>?_)
                · have hf := pnd_no_ins (c := c) (p := p) (k := k) (by omega) (by
                    rw [hP]
                    first
                      | (simp only [Bool.not_eq_true'] at hg45;simp [hg45];done)
                      | (simp at hg52;simp;omega)
                      | (have h1 : ((p.ins.take k).map (·.2)).any (fun y => decide (y = x.2)) = true := hc59
                         rw [hM] at h1
                         rw [h1];simp))
                  refine G_seq ?_
                  refine G_region' (L:=[0]) rfl ?_
                  refine xas ?_
                  refine EOps_nil ?_
                  refine G_ret ?_
                  refine⟨_,[],rfl,rfl,bool_eq ?_,rfl⟩
                  simp [hf]
                · refine G_skip ?_
                  refine G_region' (L:=[0,1]) rfl ?_
                  refine x_pure rfl rfl rfl xb3 ?_
                  refine xmv ?_
                  refine EOps_nil ?_
                  refine⟨[0,1],rfl,k+1,?_,?_,rfl,⟨.inr rfl,trivial⟩,⟨.inr rfl,.inr rfl,.inr rfl,.inr rfl,.inr rfl,.inr rfl,.inr rfl,trivial⟩⟩
                  · first|omega|(dsimp only;omega)|(simp;omega)
                  · refine ⟨by omega, allK_step hall ?_⟩
                    have h1:((p.ins.take k).map (·.2)).any (fun y=>decide (y=x.2))=false:=hc59
                    rw [hM] at h1
                    have h2:isItem x=true:=by simpa using hg45
                    have h3:rowIx c.rows x.2<0:=by simp at hg52;omega
                    rw [hP,h2,decide_eq_true h3,h1];rfl
          · have hins : allK (insP c p) p.ins.length = true := by
              have:p.ins.length≤k:=by simpa [pairs_len] using hc38
              rwa [show k=p.ins.length by omega] at hall
            refine G_exit ?_
            refine G_seq ?_
            refine G_seq ?_
            refine G_region' (L:=[0,1,2,3]) rfl ?_
            refine x_pure rfl rfl rfl (l_field rfl fo_58_1) ?_
            refine x_light rfl rfl rfl (L_load rfl (xb0 ty_24)) ?_
            refine x_pure rfl rfl rfl (l_len rfl sl_24) ?_
            refine xmv ?_
            refine EOps_nil ?_
            refine G_block ?_
            refine g_for (α:=Nat) [0,1,2,3,5,6,33,35,36,37,38,59,62,63] (fun k=>[(64,.c (.sc (.int .i64 (k))))]) (fun _=>_) (fun k=>k≤p.del.length∧allK (delP c p) k=true) (fun k=>p.del.length - k) (0) ?_ (rfl) ⟨.inr rfl,trivial⟩ ?_
            · exact⟨Nat.zero_le _,rfl⟩
            rintro k ⟨hk,hall⟩
            refine G_seq ?_
            refine G_region' (L:=[0]) rfl ?_
            refine x_pure rfl rfl rfl (L_bin rfl rfl rfl rfl) ?_
            refine EOps_nil ?_
            refine G_seq ?_
            refine G_cond rfl (fun hc65=>?_) (fun hc65=>?_)
            · have hc65' : k < (p.del).length := by simpa [ints_len, bools_len, pairs_len, quads_len, quints_len] using hc65
              obtain⟨x,hx⟩:∃ x,(p.del)[k]? = some x:=⟨_,List.getElem?_eq_getElem hc65'⟩
              have hP:=delP_at (c:=c) hx
              refine G_skip ?_
              refine G_seq ?_
              refine G_block ?_
              refine G_seq ?_
              refine G_region' (L:=[0,1,2,3,4]) rfl ?_
              refine xmv ?_
              refine x_pure rfl rfl rfl (L_index rfl rfl (by first|exact i_ro sl_24 ty_3|exact i_sl sl_24 ty_3)) ?_
              refine x_light rfl rfl rfl (L_load rfl (xb0 ty_3)) ?_
              refine xas ?_
              refine xas ?_
              refine EOps_nil ?_
              refine G_seq ?_
              refine g_tidy [0,1,2,3,4,5,6,7,8,33,35,36,37,38,59,62,63,64,65,80] ?_
              refine G_region' (L:=[0,1,2,3,4,5,6,7,8,9,10,11]) rfl ?_
              refine x_light rfl rfl rfl (L_load rfl (xb0 ty_27)) ?_
              refine xmv ?_
              refine x_call rfl rfl rfl rfl rfl ca_117 (c_impl_FindRow c x) ?_
              rintro r S ⟨rfl,rfl⟩
              refine x_pure rfl rfl rfl (L_bin rfl rfl rfl rfl) ?_
              refine xmv ?_
              refine EOps_split 73 (b:=_) rfl (fun hg73=>?_) (fun hg73=>?_)
              · refine x_skip rfl rfl rfl ?_
                refine x_skip rfl rfl rfl ?_
                refine x_skip rfl rfl rfl ?_
                refine x_skip rfl rfl rfl ?_
                refine x_skip rfl rfl rfl ?_
                refine x_skip rfl rfl rfl ?_
                refine x_pure rfl rfl rfl (L_pick rfl rfl) ?_
                refine EOps_nil ?_
                refine G_cond rfl (fun hc80=>?_) (fun hc80=>?_)
                · have hf := pnd_no_del (c := c) (p := p) (k := k) (by omega) (by
                    rw [hP]
                    first
                      | (simp at hg73;simp;omega)
                      | (simp at hc80;simp [hc80]))
                  refine G_seq ?_
                  refine G_region' (L:=[0]) rfl ?_
                  refine xas ?_
                  refine EOps_nil ?_
                  refine G_ret ?_
                  refine⟨_,[],rfl,rfl,bool_eq ?_,rfl⟩
                  simp [hf]
                · exact Bool.noConfusion (hc80:true=false)
              · refine x_pure rfl rfl rfl (l_field rfl fo_58_1) ?_
                refine x_light rfl rfl rfl (L_load rfl (xb0 ty_24)) ?_
                refine xmv ?_
                refine x_pure rfl rfl rfl (Pure.as (by first|exact L_slice_ro (l:=0) (h:=k) rfl sl_24 ty_3 rfl rfl rfl (by first|omega|(simp [ints_len,pairs_len,quads_len,quints_len,bools_len];omega)|(simp [ints_len,pairs_len,quads_len,quints_len,bools_len] at *;omega)) (by first|omega|(simp [ints_len,pairs_len,quads_len,quints_len,bools_len];omega)|(simp [ints_len,pairs_len,quads_len,quints_len,bools_len] at *;omega)) (by first|exact fun r hr=>(ints_row _ r hr).1|exact fun r hr=>(pairs_row _ r hr).1|exact fun r hr=>(quads_row _ r hr).1|exact fun r hr=>(quints_row _ r hr).1|exact fun r hr=>(bools_row _ r hr).1)|exact L_slice_sl (l:=0) (h:=k) rfl sl_24 ty_3 rfl (by first|rfl|assumption) (by first|assumption|exact ints_len _|exact pairs_len _|exact quads_len _|exact quints_len _|exact bools_len _|(simp [ints_len,bools_len,pairs_len,quads_len,quints_len,part_len, *];done)|(simp [ints_len,bools_len,pairs_len,quads_len,quints_len];omega)|rfl) rfl rfl (by first|omega|(simp [ints_len,pairs_len,quads_len,quints_len,bools_len];omega)|(simp [ints_len,pairs_len,quads_len,quints_len,bools_len] at *;omega)) (by first|omega|(simp [ints_len,pairs_len,quads_len,quints_len,bools_len];omega)|(simp [ints_len,pairs_len,quads_len,quints_len,bools_len] at *;omega))) (y':=.c (.ro (ints (p.del.take k)))) (by first|(simp [ints_cut,pairs_cut,bools_cut,ints_take,pairs_take,bools_take];done)|(simp [ints_cut,pairs_cut,bools_cut,ints_take,pairs_take,bools_take];rfl))) ?_
                refine xmv ?_
                refine x_call rfl rfl rfl rfl rfl ca_103 (c_slices_Contains___int_int_ (p.del.take k) x) ?_
                rintro r S ⟨rfl,rfl⟩
                refine x_pure rfl rfl rfl (L_pick rfl rfl) ?_
                refine EOps_nil ?_
                refine G_cond rfl (fun hc80=>?_) (fun hc80=>?_)
                · have hf := pnd_no_del (c := c) (p := p) (k := k) (by omega) (by
                    rw [hP]
                    first
                      | (simp at hg73;simp;omega)
                      | (simp at hc80;simp [hc80]))
                  refine G_seq ?_
                  refine G_region' (L:=[0]) rfl ?_
                  refine xas ?_
                  refine EOps_nil ?_
                  refine G_ret ?_
                  refine⟨_,[],rfl,rfl,bool_eq ?_,rfl⟩
                  simp [hf]
                · refine G_skip ?_
                  refine G_region' (L:=[0,1]) rfl ?_
                  refine x_pure rfl rfl rfl xb3 ?_
                  refine xmv ?_
                  refine EOps_nil ?_
                  refine⟨k+1,?_,?_,rfl,⟨.inr rfl,trivial⟩,⟨.inr rfl,.inr rfl,.inr rfl,.inr rfl,.inr rfl,.inr rfl,.inr rfl,.inr rfl,.inr rfl,.inr rfl,.inr rfl,.inr rfl,.inr rfl,.inr rfl,trivial⟩⟩
                  · first|omega|(dsimp only;omega)|(simp;omega)
                  · refine ⟨by omega, allK_step hall ?_⟩
                    have h1:rowIx c.rows x≥0:=by simp at hg73;omega
                    have h2:¬ x ∈ p.del.take k:=by simpa using hc80
                    rw [hP,decide_eq_true h1,decide_eq_false h2];rfl
            · have hf : isPnd c p = true := by
                have:p.del.length≤k:=by simpa [ints_len] using hc65
                rw [show k=p.del.length by omega] at hall
                simp only [isPnd,hc,hn,hins,hall,Bool.and_self]
              refine G_exit ?_
              refine G_seq ?_
              refine G_region' (L:=[0]) rfl ?_
              refine xas ?_
              refine EOps_nil ?_
              refine G_ret ?_
              refine⟨_,[],rfl,rfl,bool_eq ?_,rfl⟩
              simp [hf]

end Go.Proofs.Ytcepgfcolmdnoaa.E
