/- Walks through functions, by program out of the session's annotations. -/
import Derived.Test.YtlodlnbhjghjoaaGreatA122
import Derived.Test.YtlodlnbhjghjoaaGreatA51
import Derived.Test.YtlodlnbhjghjoaaGreatA52
import Derived.Test.YtlodlnbhjghjoaaGreatA47
namespace Go.Proofs.YtlodlnbhjghjoaaGreat.E
open Go Go.RowKit Go.Proofs
set_option linter.unusedVariables false
set_option linter.unusedSimpArgs false

theorem fp_mem {c : Crk} {u : Int} (h : isPv c.piv u = true) : (u, fpAt c.piv u) ∈ c.piv := by
 unfold isPv at h
 unfold fpAt
 cases hf:fpv c.piv u with
 | none=>rw [hf] at h;cases h
 | some p =>
  have hm:=List.mem_of_find?_eq_some hf
  have hp:p.1=u:=by simpa using List.find?_some hf
  have e:(u,p.2)=p:=by rw [← hp]
  dsimp only
  rw [e];exact hm
/-- What is wanted stands together. -/
theorem filter_mid {α : Type} (q : α → Bool) : ∀ (l : List α) (a b : Nat), a ≤ b → b ≤ l.length → (∀ i x, l[i]? = some x → (q x = true ↔ a ≤ i ∧ i < b)) → l.filter q = (l.drop a).take (b - a)
 | [], a, b, _, hb, _ => by
  obtain rfl:b=0:=by simpa using hb
  simp
 | x :: l, 0, 0, _, _, h => by
  have h0:¬ q x=true:=fun e=>by have:=(h 0 x rfl).1 e;omega
  rw [List.filter_cons_of_neg h0, filter_mid q l 0 0 (Nat.le_refl _) (Nat.zero_le _) (fun i y hy => by
   have:=h (i+1) y (by simpa using hy)
   rw [this];omega)]
  simp
 | x :: l, 0, b + 1, _, hb, h => by
  have h0:q x=true:=(h 0 x rfl).2 (by omega)
  rw [List.filter_cons_of_pos h0, filter_mid q l 0 b (Nat.zero_le _) (by simpa using hb) (fun i y hy => by
   have:=h (i+1) y (by simpa using hy)
   rw [this];omega)]
  simp
 | x::l,a+1,0,hab,_,_=>by omega
 | x :: l, a + 1, b + 1, hab, hb, h => by
  have h0:¬ q x=true:=fun e=>by have:=(h 0 x rfl).1 e;omega
  rw [List.filter_cons_of_neg h0, filter_mid q l a b (by omega) (by simpa using hb) (fun i y hy => by
   have:=h (i+1) y (by simpa using hy)
   rw [this];omega)]
  rw [List.drop_succ_cons,show b+1 - (a+1)=b - a by omega]
/-- The rows of a column in a range, as they stand. -/
def riN (c : Crk) (r : Int × Int) : Nat → List Int
 | 0=>[]
 | k+1=>if inR r (c.vals.getD k 0)=true then riN c r k++[c.rows.getD k 0] else riN c r k
theorem riN_at {c:Crk} {r:Int × Int} {k:Nat} {x y:Int} (hx:c.vals[k]? = some x) (hy:c.rows[k]? = some y):riN c r (k+1)=if inR r x=true then riN c r k++[y] else riN c r k:=by rw [riN,getD_of hx,getD_of hy]
theorem riN_len (c : Crk) (r : Int × Int) : ∀ k, (riN c r k).length ≤ k
 | 0=>Nat.le_refl _
 | k + 1 => by
  have:=riN_len c r k
  rw [riN]
  split
  ·rw [List.length_append,List.length_singleton];omega
  omega
theorem riN_zip {c : Crk} (hl : c.rows.length = c.vals.length) (r : Int × Int) : ∀ k, k ≤ c.vals.length → riN c r k = (((zpC c).take k).filter fun z => inR r z.1).map (·.2)
 | 0,_=>rfl
 | k + 1, hk => by
  obtain⟨x,hx⟩:=at_lt (l:=c.vals) (k:=k) (by omega)
  obtain⟨y,hy⟩:=at_lt (l:=c.rows) (k:=k) (by omega)
  have hz:(zpC c)[k]? = some (x,y):=by rw [zpC,List.getElem?_zip_eq_some];exact⟨hx,hy⟩
  rw [riN_at hx hy,riN_zip hl r k (by omega),List.take_add_one,hz,List.filter_append,List.map_append]
  split
  ·rename_i h
   simp [h]
  rename_i h
  simp [h]
def riL (c:Crk) (r:Int × Int):List Int:=sortI (riN c r c.vals.length)
theorem riL_of {c d : Crk} {r : Int × Int} (hc : c.rows.length = c.vals.length) (hd : d.rows.length = d.vals.length) (h : (zpC c).Perm (zpC d)) : riL c r = riL d r := by
 have h1:(zpC c).length=c.vals.length:=by simp [zpC,hc]
 have h2:(zpC d).length=d.vals.length:=by simp [zpC,hd]
 rw [riL,riL,riN_zip hc r _ (Nat.le_refl _),riN_zip hd r _ (Nat.le_refl _),List.take_of_length_le (by omega),List.take_of_length_le (by omega)]
 exact sortI_of ((h.filter _).map _)
/-- A column that is divided at both ends of a range has the range's rows between. -/
theorem riL_mid {c : Crk} {r : Int × Int} (hc : isCrk c = true) (hr : isRng r = true) (h1 : isPv c.piv r.1 = true) (h2 : isPv c.piv r.2 = true) (hle : fpAt c.piv r.1 ≤ fpAt c.piv r.2) : riL c r = rowsB c (fpAt c.piv r.1) (fpAt c.piv r.2) := by
 have ho:=(crk_iff c).1 hc
 have hl:=crk_lens hc
 obtain⟨_,_,a1,a2,a3⟩:=ho.pv _ (fp_mem h1)
 obtain⟨_,_,b1,b2,b3⟩:=ho.pv _ (fp_mem h2)
 dsimp only at a1 a2 a3 b1 b2 b3
 have hz:(zpC c).length=c.vals.length:=by simp [zpC,hl.2.1]
 rw [riL,rowsB,if_pos ⟨hc,a1,hle,by omega⟩,riN_zip hl.2.1 r _ (Nat.le_refl _),List.take_of_length_le (by omega)]
 rw [filter_mid (fun z : Int × Int => inR r z.1) (zpC c) (fpAt c.piv r.1).toNat (fpAt c.piv r.2).toNat (by omega) (by omega) (fun i z hzz => by
  have hi:=lt_of_at hzz
  simp only [zpC] at hzz
  rw [List.getElem?_zip_eq_some] at hzz
  have e1:=a3 i (by omega)
  have e2:=b3 i (by omega)
  rw [getD_of hzz.1] at e1 e2
  simp only [inR,hr,Bool.true_and,Bool.and_eq_true,decide_eq_true_eq]
  omega)]
 rw [cutV,List.map_take,List.map_drop]
 have e:(zpC c).map (·.2)=c.rows:=List.map_snd_zip (l₁:=c.vals) (l₂:=c.rows) (by omega)
 rw [e]
set_option maxRecDepth 20000 in
set_option maxHeartbeats 2000000 in
theorem c_laws_rowsIn (c : Crk) (r : Int × Int) (hc : isCrk c = true) : EFn Tryz.prog 45 [.agg (crkC c), .agg [.sc (.int .i64 r.1), .sc (.int .i64 r.2)]] [] (fun y S => y = .c (.sl 0 0 (riL c r).length (riL c r).length) ∧ S = [.row 3 1 (ints (riL c r))]) := by
 refine E_fn Tryz.func45 rfl (Nat.le_of_ble_eq_true rfl) ?_
 have hl:=crk_lens hc
 refine E_seq ?_
 refine E_region' (L:=[0,1,2]) rfl ?_
 refine x_box rfl rfl rfl rfl rfl ?_
 refine x_box rfl rfl rfl rfl rfl ?_
 refine xas ?_
 refine EOps_nil ?_
 refine E_seq ?_
 refine E_region' (L:=[0,1]) rfl ?_
 refine EOps_go rfl rfl (Heavy.op (H_bslice rfl rfl (by decide) sl_22 ty_3 za_3 ⟨rfl,by decide⟩ (by decide) rfl rfl rfl rfl ?_))
 refine xas ?_
 refine EOps_nil ?_
 refine E_seq ?_
 refine E_seq ?_
 refine E_region' (L:=[0]) rfl ?_
 refine xas ?_
 refine EOps_nil ?_
 refine E_block ?_
 refine e_for (α:=Nat) [0,1,2,3,4] (fun k=>[(6,.c (.sc (.int .i64 ((k:Int))))),(5,.c (.sl 2 0 (riN c r k).length (riN c r k).length))]) (fun k=>[.box (crkC c),.box [.sc (.int .i64 r.1),.sc (.int .i64 r.2)],.row 3 1 (ints (riN c r k))]) (fun k=>k≤c.vals.length) (fun k=>c.vals.length - k) (0) ?_ (rfl) ⟨.inr rfl,.inr rfl,trivial⟩ ?_
 ·simp
 rintro k hk
 have hpl:=riN_len c r k
 refine E_seq ?_
 refine E_seq ?_
 refine E_region' (L:=[0,1,2,3,4,5,6,7,8,9,10,11]) rfl ?_
 refine xmv ?_
 refine p_ rfl (l_field rfl fo_49_0) ?_
 refine l_ rfl (L_load rfl (xb0 ty_22)) ?_
 refine p_ rfl (l_len rfl sl_22) ?_
 refine p_ rfl (L_bin rfl rfl rfl rfl) ?_
 refine xmv ?_
 refine EOps_split 13 (b:=_) rfl (fun hg13=>?_) (fun hg13=>?_)
 ·have hk1 : k < c.vals.length := by simp [ints_len] at hg13; omega
  refine xmv ?_
  refine p_ rfl (l_field rfl fo_49_1) ?_
  refine l_ rfl (L_load rfl (xb0 ty_22)) ?_
  refine p_ rfl (l_len rfl sl_22) ?_
  refine p_ rfl (L_bin rfl rfl rfl rfl) ?_
  refine p_ rfl (L_pick rfl rfl) ?_
  refine EOps_nil ?_
  refine E_cond rfl (fun hc19=>?_) (fun hc19=>?_)
  ·obtain ⟨x, hx⟩ := at_lt (l := c.vals) hk1
   obtain⟨y,hy⟩:=at_lt (l:=c.rows) (k:=k) (by omega)
   have hst0:=riN_at (r:=r) hx hy
   refine E_skip ?_
   refine E_seq ?_
   refine E_block ?_
   refine E_seq ?_
   refine e_tidy [0,1,2,3,4,5,6,19,28] ?_
   refine E_drawT mixed ?_
   refine tl_ 0 rfl (L_load rfl (xb0 ty_53)) ?_
   refine tj_ 1 rfl (l_field rfl fo_49_0) ?_
   refine tl_ 2 rfl (L_load rfl (xb0 ty_22)) ?_
   refine tj_ 3 rfl (L_move rfl) ?_
   refine tj_ 4 rfl (L_index rfl rfl (xii sl_22 ty_3)) ?_
   refine tl_ 5 rfl (L_load rfl (xb0 ty_3)) ?_
   refine t_call 6 rfl rfl rfl rfl rfl ca_73 (c_spec_InRange r x) ?_
   rintro r S ⟨rfl,rfl⟩
   refine T_done (by kernel_rfl) ?_
   refine E_cond rfl (fun hc28=>?_) (fun hc28=>?_)
   ·have hst : riN c r (k + 1) = riN c r k ++ [y] := by rw [hst0, if_pos hc28]
    refine E_region' (L:=[0,1,2,3,4,5,6,7,8]) rfl ?_
    refine xmv ?_
    refine p_ rfl (l_field rfl fo_49_1) ?_
    refine l_ rfl (L_load rfl (xb0 ty_22)) ?_
    refine xmv ?_
    refine p_ rfl (L_index rfl rfl (xii sl_22 ty_3)) ?_
    refine l_ rfl (L_load rfl (xb0 ty_3)) ?_
    refine EOps_go rfl rfl (Heavy.op (H_bslice_ro rfl rfl (by decide) sl_22 ty_3 za_3 ⟨rfl,by decide⟩ (by decide) rfl rfl rfl rfl ?_))
    refine EOps_go rfl rfl (EOp_append (news:=ints [y]) rfl rfl (by decide) sl_22 ty_3 by_3 za_3 ⟨rfl,by decide⟩ rfl (by first|rfl|assumption) xb6 xb7 xb8 xb9 ?_)
    refine xas ?_
    refine EOps_nil ?_
    refine E_region' (L:=[0,1,2]) rfl ?_
    refine xmv ?_
    refine p_ rfl xb2 ?_
    refine xas ?_
    refine EOps_nil ?_
    refine⟨k+1,?_,?_,(by rw [hst];first|rfl|(rw [← ints_app];rfl)),⟨.inr rfl,.inr ((by rw [hst];first|rfl|(rw [← ints_lenApp];rfl))),trivial⟩,⟨.inr rfl,.inr rfl,.inr rfl,.inr rfl,.inr rfl,trivial⟩⟩
    ·first|omega|(dsimp only;omega)|(simp;omega)
    first|trivial|omega|(dsimp only;omega)|(simp;omega)
   have hst : riN c r (k + 1) = riN c r k := by rw [hst0, if_neg (by simp [hc28])]
   refine E_skip ?_
   refine E_region' (L:=[0,1,2]) rfl ?_
   refine xmv ?_
   refine p_ rfl xb2 ?_
   refine xas ?_
   refine EOps_nil ?_
   refine⟨k+1,?_,?_,(by rw [hst];first|rfl|(rw [← ints_app];rfl)),⟨.inr rfl,.inr ((by rw [hst];first|rfl|(rw [← ints_lenApp];rfl))),trivial⟩,⟨.inr rfl,.inr rfl,.inr rfl,.inr rfl,.inr rfl,trivial⟩⟩
   ·first|omega|(dsimp only;omega)|(simp;omega)
   first|trivial|omega|(dsimp only;omega)|(simp;omega)
  have hke : k = c.vals.length := by
   first
    | omega
    | (exfalso;simp [ints_len] at hc19;omega)
  subst hke
  refine E_exit ?_
  refine E_seq ?_
  refine e_tidy [0,1,2,3,4,5,6,19,28] ?_
  refine E_region' (L:=[0,1,2]) rfl ?_
  refine xmv ?_
  refine x_call rfl rfl rfl rfl rfl ca_80 (c_spec_SortInts (riN c r c.vals.length) (by omega)) ?_
  rintro r S ⟨rfl,rfl⟩
  refine xas ?_
  refine EOps_nil ?_
  refine E_ret ?_
  exact⟨_,[3],rfl,rfl,rfl,rfl⟩
 have hk2 : c.vals.length ≤ k := by simp [ints_len] at hg13; omega
 refine s_ rfl ?_
 refine s_ rfl ?_
 refine s_ rfl ?_
 refine s_ rfl ?_
 refine s_ rfl ?_
 refine p_ rfl (L_pick rfl rfl) ?_
 refine EOps_nil ?_
 refine E_cond rfl (fun hc19=>?_) (fun hc19=>?_)
 ·exact Bool.noConfusion (hc19:false=true)
 have hke : k = c.vals.length := by
  first
   | omega
   | (exfalso;simp [ints_len] at hc19;omega)
 subst hke
 refine E_exit ?_
 refine E_seq ?_
 refine e_tidy [0,1,2,3,4,5,6,19,28] ?_
 refine E_region' (L:=[0,1,2]) rfl ?_
 refine xmv ?_
 refine x_call rfl rfl rfl rfl rfl ca_80 (c_spec_SortInts (riN c r c.vals.length) (by omega)) ?_
 rintro r S ⟨rfl,rfl⟩
 refine xas ?_
 refine EOps_nil ?_
 refine E_ret ?_
 exact⟨_,[3],rfl,rfl,rfl,rfl⟩

end Go.Proofs.YtlodlnbhjghjoaaGreat.E
