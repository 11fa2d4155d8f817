/- Walks through functions, by program out of the session's annotations. -/
import Derived.Test.YtcepgfcolmdnoaaA24
import Derived.Test.YtcepgfcolmdnoaaA47
import Derived.Test.YtcepgfcolmdnoaaA51
import Derived.Test.YtcepgfcolmdnoaaA100
import Derived.Test.YtcepgfcolmdnoaaA173
namespace Go.Proofs.Ytcepgfcolmdnoaa.E
open Go Go.RowKit Go.Proofs
set_option linter.unusedVariables false
set_option linter.unusedSimpArgs false

theorem lendC_cut {R:List Res} {i e a b tot:Nat} {xs:List Int} (hR:R[i]? = some (.row e 1 (ints xs))) (ht:xs.length=tot):lendC R (.sl i (0+a) (b - a) tot) = .ro (ints (cutV xs a b)):=AV.c.inj (lend_cutI hR ht)
/-- A part of a column, without pivots. -/
def partCr (c:Crk) (a b:Int):Crk:=⟨cutV c.vals a b,cutV c.rows a b,[]⟩
def lpI (v : Int) (b : Crk) : Nat → List Int
 | 0=>[]
 | j+1=>if b.vals.getD j 0=v then lpI v b j++[b.rows.getD j 0] else lpI v b j
def lpR (a b:Crk) (i:Nat):List Int:=sortI (lpI (a.vals.getD (rowIx a.rows i).toNat 0) b b.vals.length)
def lpW (a:Crk) (r:Int × Int) (i:Nat):Bool:=decide (0≤rowIx a.rows i) && inR r (a.vals.getD (rowIx a.rows i).toNat 0)
def lpN (i:Nat) (l:List Int) (j:Nat):List (Int × Int):=(l.take j).map fun w=>((i:Int),w)
def lpS (a b : Crk) (r : Int × Int) : Nat → List (Int × Int)
 | 0=>[]
 | i+1=>if lpW a r i=true then lpS a b r i++lpN i (lpR a b i) (lpR a b i).length else lpS a b r i
theorem lpI_at {v x y:Int} {b:Crk} {j:Nat} (hx:b.vals[j]? = some x) (hy:b.rows[j]? = some y):lpI v b (j+1)=if x=v then lpI v b j++[y] else lpI v b j:=by rw [lpI,getD_of hx,getD_of hy]
theorem lpI_len (v : Int) (b : Crk) : ∀ j, (lpI v b j).length ≤ j
 | 0=>Nat.le_refl _
 | j + 1 => by
  have:=lpI_len v b j
  rw [lpI]
  split
  ·rw [List.length_append,List.length_singleton];omega
  omega
theorem lpR_len (a b:Crk) (i:Nat):(lpR a b i).length≤b.vals.length:=by rw [lpR,sortI_len];exact lpI_len _ _ _
theorem lpN_at {i j:Nat} {l:List Int} {w:Int} (h:l[j]? = some w):lpN i l (j+1)=lpN i l j++[((i:Int),w)]:=by rw [lpN,take_snoc h,List.map_append];rfl
theorem lpN_len (i:Nat) (l:List Int) (j:Nat):(lpN i l j).length≤j:=by rw [lpN,List.length_map,List.length_take];omega
theorem lpS_len (a b : Crk) (r : Int × Int) : ∀ i, (lpS a b r i).length ≤ i * b.vals.length
 | 0=>by simp [lpS]
 | i + 1 => by
  have h1:=lpS_len a b r i
  have h2:=lpN_len i (lpR a b i) (lpR a b i).length
  have h3:=lpR_len a b i
  rw [lpS,Nat.add_mul]
  split
  ·rw [List.length_append];omega
  omega

set_option maxRecDepth 20000 in
set_option maxHeartbeats 2000000 in
theorem c_spec_l18Part (c : Crk) (a b : Nat) (h : a ≤ b ∧ b ≤ c.vals.length) (hl : c.rows.length = c.vals.length) : EFn Try.prog 154 [.agg (crkO 0 c), .c (.sc (.int .i64 (a : Int))), .c (.sc (.int .i64 (b : Int)))] [.row 3 1 (ints c.vals), .row 3 1 (ints c.rows), .row 129 2 (pairs c.piv)] (fun r S => r = .agg [.sl 0 (0 + a) (b - a) c.vals.length, .sl 1 (0 + a) (b - a) c.rows.length, .sl 3 0 0 0] ∧ S = [.row 3 1 (ints c.vals), .row 3 1 (ints c.rows), .row 129 2 (pairs c.piv), .row 129 2 (pairs [])]) := by
 refine E_fn Try.func154 rfl (Nat.le_of_ble_eq_true rfl) ?_
 refine E_seq ?_
 refine E_region' (L:=[0,1]) rfl ?_
 refine x_box rfl rfl rfl rfl rfl ?_
 refine x_alloc rfl rfl rfl rfl za_27 ?_
 refine EOps_nil ?_
 refine E_seq ?_
 refine E_drawT mixed ?_
 refine tj_ 0 rfl (l_field rfl fo_27_0) ?_
 refine tl_ 1 rfl (L_load rfl (xb0 ty_24)) ?_
 refine tj_ 2 rfl (L_move rfl) ?_
 refine tj_ 3 rfl (L_move rfl) ?_
 refine tj_ 4 rfl (by first|exact L_slice_ro (l:=a) (h:=b) rfl sl_24 ty_3 rfl rfl rfl (by first|omega|(simp [ints_len,pairs_len,quads_len,quints_len,bools_len];omega)|(simp [ints_len,pairs_len,quads_len,quints_len,bools_len] at *;omega)) (by first|omega|(simp [ints_len,pairs_len,quads_len,quints_len,bools_len];omega)|(simp [ints_len,pairs_len,quads_len,quints_len,bools_len] at *;omega)) (by first|exact fun r hr=>(ints_row _ r hr).1|exact fun r hr=>(pairs_row _ r hr).1|exact fun r hr=>(quads_row _ r hr).1|exact fun r hr=>(quints_row _ r hr).1|exact fun r hr=>(bools_row _ r hr).1)|exact L_slice_sl (l:=a) (h:=b) rfl sl_24 ty_3 rfl (by first|rfl|assumption) (by first|assumption|exact ints_len _|exact pairs_len _|exact quads_len _|exact quints_len _|exact bools_len _|(simp [ints_len,bools_len,pairs_len,quads_len,quints_len,part_len, *];done)|(simp [ints_len,bools_len,pairs_len,quads_len,quints_len];omega)|rfl) rfl rfl (by first|omega|(simp [ints_len,pairs_len,quads_len,quints_len,bools_len];omega)|(simp [ints_len,pairs_len,quads_len,quints_len,bools_len] at *;omega)) (by first|omega|(simp [ints_len,pairs_len,quads_len,quints_len,bools_len];omega)|(simp [ints_len,pairs_len,quads_len,quints_len,bools_len] at *;omega))) ?_
 refine tj_ 5 rfl (l_field rfl fo_27_1) ?_
 refine tl_ 6 rfl (L_load rfl (xb0 ty_24)) ?_
 refine tj_ 7 rfl (L_move rfl) ?_
 refine tj_ 8 rfl (L_move rfl) ?_
 refine tj_ 9 rfl (by first|exact L_slice_ro (l:=a) (h:=b) rfl sl_24 ty_3 rfl rfl rfl (by first|omega|(simp [ints_len,pairs_len,quads_len,quints_len,bools_len];omega)|(simp [ints_len,pairs_len,quads_len,quints_len,bools_len] at *;omega)) (by first|omega|(simp [ints_len,pairs_len,quads_len,quints_len,bools_len];omega)|(simp [ints_len,pairs_len,quads_len,quints_len,bools_len] at *;omega)) (by first|exact fun r hr=>(ints_row _ r hr).1|exact fun r hr=>(pairs_row _ r hr).1|exact fun r hr=>(quads_row _ r hr).1|exact fun r hr=>(quints_row _ r hr).1|exact fun r hr=>(bools_row _ r hr).1)|exact L_slice_sl (l:=a) (h:=b) rfl sl_24 ty_3 rfl (by first|rfl|assumption) (by first|assumption|exact ints_len _|exact pairs_len _|exact quads_len _|exact quints_len _|exact bools_len _|(simp [ints_len,bools_len,pairs_len,quads_len,quints_len,part_len, *];done)|(simp [ints_len,bools_len,pairs_len,quads_len,quints_len];omega)|rfl) rfl rfl (by first|omega|(simp [ints_len,pairs_len,quads_len,quints_len,bools_len];omega)|(simp [ints_len,pairs_len,quads_len,quints_len,bools_len] at *;omega)) (by first|omega|(simp [ints_len,pairs_len,quads_len,quints_len,bools_len];omega)|(simp [ints_len,pairs_len,quads_len,quints_len,bools_len] at *;omega))) ?_
 refine tj_ 10 rfl (L_build rfl bd_27 rfl rfl) ?_
 refine t_turn 11 rfl rfl (EOp_store rfl rfl rfl (xb1 ty_27) ?_)
 refine T_done (by kernel_rfl) ?_
 refine E_ghostB 4 2 129 2 rfl rfl (by decide) ?_
 refine E_ret ?_
 exact⟨_,[5],rfl,rfl,rfl,rfl⟩

set_option maxRecDepth 20000 in
set_option maxHeartbeats 8000000 in
theorem c_spec_l18Pairs (a b : Crk) (r : Int × Int) (ha : a.rows.length = a.vals.length ∧ a.vals.length ≤ 64) (hb : b.rows.length = b.vals.length ∧ b.vals.length ≤ 64) : EFn Try.prog 153 [.agg (crkC a), .agg (crkC b), .agg [.sc (.int .i64 r.1), .sc (.int .i64 r.2)]] [] (fun y S => y = .c (.sl 0 0 (lpS a b r 1000).length (lpS a b r 1000).length) ∧ S = [.row 173 2 (pairs (lpS a b r 1000))]) := by
  refine E_fn Try.func153 rfl (Nat.le_of_ble_eq_true rfl) ?_
  refine E_G (n:=0) rfl ?_
  refine G_seq ?_
  refine G_region' (L:=[0,1,2,3]) rfl ?_
  refine x_box rfl rfl rfl rfl rfl ?_
  refine x_box rfl rfl rfl rfl rfl ?_
  refine x_box rfl rfl rfl rfl rfl ?_
  refine xas ?_
  refine EOps_nil ?_
  refine G_seq ?_
  refine G_region' (L:=[0,1]) rfl ?_
  refine EOps_go rfl rfl (Heavy.op (H_bslice rfl rfl (by decide) sl_102 ty_173 za_173 ⟨rfl,by decide⟩ (by decide) rfl rfl rfl rfl ?_))
  refine xas ?_
  refine EOps_nil ?_
  refine G_seq ?_
  refine G_seq ?_
  refine G_region' (L:=[0]) rfl ?_
  refine xas ?_
  refine EOps_nil ?_
  refine G_block ?_
  refine g_forD_A37_1 (α:=Nat) [0,1,2,3,4,5,6] (fun i=>[(8,.c (.sc (.int .i64 ((i:Int))))),(7,.c (.sl 3 0 (lpS a b r i).length (lpS a b r i).length)),(9,.any),(10,.any),(11,.any),(12,.any)]) (fun i=>[.box (crkC a),.box (crkC b),.box [.sc (.int .i64 r.1),.sc (.int .i64 r.2)],.row 173 2 (pairs (lpS a b r i))]) (fun i=>i≤1000) (fun i=>1000 - i) (0) ?_ (rfl) ⟨.inr rfl,.inr rfl,.inl rfl,.inl rfl,.inl rfl,.inl rfl,trivial⟩ ?_
  · simp
  rintro i hi
  refine G_seq ?_
  refine G_seq ?_
  refine G_region' (L:=[0,1]) rfl ?_
  refine xmv ?_
  refine p_ rfl (L_bin rfl rfl rfl rfl) ?_
  refine EOps_nil ?_
  refine G_cond rfl (fun hc15=>?_) (fun hc15=>?_)
  · have hi1 : i < 1000 := by simp at hc15; omega
    have hsl:=lpS_len a b r i
    have hsb:i*b.vals.length≤1000*64:=Nat.mul_le_mul (by omega) hb.2
    refine G_skip ?_
    refine G_seq ?_
    refine G_block ?_
    refine G_seq ?_
    refine g_tidy_A37_0 [0,1,2,3,4,5,6,7,8,9,10,11,12,15,32,38,51,65] ?_
    refine G_region' (L:=[0,1,2,3]) rfl ?_
    refine l_ rfl (L_load rfl (xb0 ty_27)) ?_
    refine xmv ?_
    refine x_call rfl rfl rfl rfl rfl ca_46 (c_spec_FindRow a i (by omega)) ?_
    rintro r S ⟨rfl,rfl⟩
    refine xas ?_
    refine EOps_nil ?_
    refine G_seq ?_
    refine G_seq ?_
    refine g_tidy_A37_0 [0,1,2,3,4,5,6,7,8,9,10,11,12,15,32,38,51,65] ?_
    refine G_drawT mixed ?_
    refine tj_ 0 rfl (L_move rfl) ?_
    refine tj_ 1 rfl (L_bin rfl rfl rfl rfl) ?_
    refine tj_ 2 rfl (L_move rfl) ?_
    refine T_split 23 (b:=_) rfl rfl (fun hg23=>?_) (fun hg23=>?_)
    · refine tk_ 3 rfl ?_
      refine tk_ 4 rfl ?_
      refine tk_ 5 rfl ?_
      refine tk_ 6 rfl ?_
      refine tk_ 7 rfl ?_
      refine tk_ 8 rfl ?_
      refine tk_ 9 rfl ?_
      refine tk_ 10 rfl ?_
      refine tj_ 11 rfl (L_pick rfl rfl) ?_
      refine T_done (by kernel_rfl) ?_
      refine G_cond rfl (fun hc32=>?_) (fun hc32=>?_)
      · have hW : lpW a r i = false := by
          first
            | (have hrn : rowIx a.rows i < 0 := by simp at hg23; omega
               rw [lpW,decide_eq_false (by omega)];rfl)
            | (have hin : inR r v = false := by simpa using hc32
               rw [lpW,hk,Int.toNat_natCast,getD_of hv,hin,Bool.and_false])
        have hS:lpS a b r (i+1)=lpS a b r i:=by rw [lpS,if_neg (by simp [hW])]
        refine G_exit ?_
        refine G_region' (L:=[0,1,2]) rfl ?_
        refine xmv ?_
        refine p_ rfl xb2 ?_
        refine xas ?_
        refine EOps_nil ?_
        refine⟨[0,1,2,3],rfl,i+1,?_,?_,(by rw [hS]<;>rfl),⟨.inr rfl,.inr ((by rw [hS]<;>rfl)),.inl rfl,.inl rfl,.inl rfl,.inl rfl,trivial⟩,⟨.inr rfl,.inr rfl,.inr rfl,.inr rfl,.inr rfl,.inr rfl,.inr rfl,trivial⟩⟩
        · first|omega|(dsimp only;omega)|(simp;omega)
        first|trivial|omega|(dsimp only;omega)|(simp;omega)
      exact Bool.noConfusion (hc32:true=false)
    have hrp : 0 ≤ rowIx a.rows i := by simp at hg23; omega
    have hrm : (i : Int) ∈ a.rows := by
      by_cases hm:(i:Int) ∈ a.rows
      · exact hm
      have:=rowIx_no hm;omega
    obtain⟨k,hk,hkr⟩:=rowIx_mem hrm
    have hkl:k<a.vals.length:=by rw [← ha.1];exact lt_of_at hkr
    obtain⟨v,hv⟩:=at_lt (l:=a.vals) hkl
    rw [hk]
    refine tl_ 3 rfl (L_load rfl (xb0 ty_41)) ?_
    refine tj_ 4 rfl (l_field rfl fo_27_0) ?_
    refine tl_ 5 rfl (L_load rfl (xb0 ty_24)) ?_
    refine tj_ 6 rfl (L_move rfl) ?_
    refine tj_ 7 rfl (L_index rfl rfl (xii sl_24 ty_3)) ?_
    refine tl_ 8 rfl (L_load rfl (xb0 ty_3)) ?_
    refine t_call 9 rfl rfl rfl rfl rfl ca_100 (c_spec_InRange r v) ?_
    rintro r S ⟨rfl,rfl⟩
    refine tj_ 10 rfl (L_not rfl rfl) ?_
    refine tj_ 11 rfl (L_pick rfl rfl) ?_
    refine T_done (by kernel_rfl) ?_
    refine G_cond rfl (fun hc32=>?_) (fun hc32=>?_)
    · have hW : lpW a r i = false := by
        first
          | (have hrn : rowIx a.rows i < 0 := by simp at hg23; omega
             rw [lpW,decide_eq_false (by omega)];rfl)
          | (have hin : inR r v = false := by simpa using hc32
             rw [lpW,hk,Int.toNat_natCast,getD_of hv,hin,Bool.and_false])
      have hS:lpS a b r (i+1)=lpS a b r i:=by rw [lpS,if_neg (by simp [hW])]
      refine G_exit ?_
      refine G_region' (L:=[0,1,2]) rfl ?_
      refine xmv ?_
      refine p_ rfl xb2 ?_
      refine xas ?_
      refine EOps_nil ?_
      refine⟨[0,1,2,3],rfl,i+1,?_,?_,(by rw [hS]<;>rfl),⟨.inr rfl,.inr ((by rw [hS]<;>rfl)),.inl rfl,.inl rfl,.inl rfl,.inl rfl,trivial⟩,⟨.inr rfl,.inr rfl,.inr rfl,.inr rfl,.inr rfl,.inr rfl,.inr rfl,trivial⟩⟩
      · first|omega|(dsimp only;omega)|(simp;omega)
      first|trivial|omega|(dsimp only;omega)|(simp;omega)
    have hin : inR r v = true := by simpa using hc32
    have hW:lpW a r i=true:=by rw [lpW,hk,Int.toNat_natCast,getD_of hv,hin,decide_eq_true (by omega)];rfl
    have hR0:lpR a b i=sortI (lpI v b b.vals.length):=by rw [lpR,hk,Int.toNat_natCast,getD_of hv]
    refine G_skip ?_
    refine G_seq ?_
    refine G_region' (L:=[0,1]) rfl ?_
    refine EOps_go rfl rfl (Heavy.op (H_bslice rfl rfl (by decide) sl_24 ty_3 za_3 ⟨rfl,by decide⟩ (by decide) rfl rfl rfl rfl ?_))
    refine xas ?_
    refine EOps_nil ?_
    refine G_seq ?_
    refine G_seq ?_
    refine G_region' (L:=[0]) rfl ?_
    refine xas ?_
    refine EOps_nil ?_
    refine G_block ?_
    refine g_forD_A37_1 (α:=Nat) [0,1,2,3,4,5,6,7,8,9,12,15,32,65] (fun j=>[(11,.c (.sc (.int .i64 ((j:Int))))),(10,.c (.sl 4 0 (lpI v b j).length (lpI v b j).length))]) (fun j=>[.box (crkC a),.box (crkC b),.box [.sc (.int .i64 r.1),.sc (.int .i64 r.2)],.row 173 2 (pairs (lpS a b r i)),.row 3 1 (ints (lpI v b j))]) (fun j=>j≤b.vals.length) (fun j=>b.vals.length - j) (0) ?_ (rfl) ⟨.inr rfl,.inr rfl,trivial⟩ ?_
    · simp
    rintro j hjl
    have hil:=lpI_len v b j
    have hipl:(ints (lpI v b j)).length=(lpI v b j).length:=ints_len _
    refine G_seq ?_
    refine G_seq ?_
    refine G_region' (L:=[0,1,2,3,4]) rfl ?_
    refine xmv ?_
    refine p_ rfl (l_field rfl fo_27_0) ?_
    refine l_ rfl (L_load rfl (xb0 ty_24)) ?_
    refine p_ rfl (l_len rfl sl_24) ?_
    refine p_ rfl (L_bin rfl rfl rfl rfl) ?_
    refine EOps_nil ?_
    refine G_cond rfl (fun hc38=>?_) (fun hc38=>?_)
    · have hj1 : j < b.vals.length := by simp [ints_len] at hc38; omega
      obtain⟨x,hx⟩:=at_lt (l:=b.vals) hj1
      obtain⟨y,hy⟩:=at_lt (l:=b.rows) (k:=j) (by omega)
      have hI0:=lpI_at (v:=v) hx hy
      refine G_skip ?_
      refine G_seq ?_
      refine G_block ?_
      refine G_seq ?_
      refine G_drawT mixed ?_
      refine tj_ 0 rfl (l_field rfl fo_27_0) ?_
      refine tl_ 1 rfl (L_load rfl (xb0 ty_24)) ?_
      refine tj_ 2 rfl (L_move rfl) ?_
      refine tj_ 3 rfl (L_index rfl rfl (xii sl_24 ty_3)) ?_
      refine tl_ 4 rfl (L_load rfl (xb0 ty_3)) ?_
      refine tj_ 5 rfl (l_field rfl fo_27_0) ?_
      refine tl_ 6 rfl (L_load rfl (xb0 ty_24)) ?_
      refine tj_ 7 rfl (L_move rfl) ?_
      refine tj_ 8 rfl (L_index rfl rfl (xii sl_24 ty_3)) ?_
      refine tl_ 9 rfl (L_load rfl (xb0 ty_3)) ?_
      refine tj_ 10 rfl (L_bin rfl rfl rfl rfl) ?_
      refine T_done (by kernel_rfl) ?_
      refine G_cond rfl (fun hc51=>?_) (fun hc51=>?_)
      · have hxv : x = v := by simpa using hc51
        have hN2:lpI v b (j+1)=lpI v b j++[y]:=by rw [hI0,if_pos hxv]
        have hL2:(lpI v b (j+1)).length=(lpI v b j).length+1:=by rw [hN2,List.length_append];rfl
        have hP2:ints (lpI v b (j+1))=ints (lpI v b j)++ints [y]:=by rw [hN2];simp [ints]
        refine G_region' (L:=[0,1,2,3,4,5,6,7,8]) rfl ?_
        refine xmv ?_
        refine p_ rfl (l_field rfl fo_27_1) ?_
        refine l_ rfl (L_load rfl (xb0 ty_24)) ?_
        refine xmv ?_
        refine p_ rfl (L_index rfl rfl (xii sl_24 ty_3)) ?_
        refine l_ rfl (L_load rfl (xb0 ty_3)) ?_
        refine EOps_go rfl rfl (Heavy.op (H_bslice_ro rfl rfl (by decide) sl_24 ty_3 za_3 ⟨rfl,by decide⟩ (by decide) rfl rfl rfl rfl ?_))
        refine EOps_go rfl rfl (EOp_append (news:=ints [y]) rfl rfl (by decide) sl_24 ty_3 by_3 za_3 ⟨rfl,by decide⟩ rfl (by first|rfl|assumption) xb7 xb8 xb9 xb10 ?_)
        refine xas ?_
        refine EOps_nil ?_
        refine G_region' (L:=[0,1,2]) rfl ?_
        refine xmv ?_
        refine p_ rfl xb2 ?_
        refine xas ?_
        refine EOps_nil ?_
        refine⟨[0,1,2,3,4],rfl,j+1,?_,?_,(by simp only [hP2];rfl),⟨.inr rfl,.inr ((by rw [hL2]<;>rfl)),trivial⟩,⟨.inr rfl,.inr rfl,.inr rfl,.inr rfl,.inr rfl,.inr rfl,.inr rfl,.inr rfl,.inr rfl,.inr rfl,.inr rfl,.inr rfl,.inr rfl,.inr rfl,trivial⟩⟩
        · first|omega|(dsimp only;omega)|(simp;omega)
        first|trivial|omega|(dsimp only;omega)|(simp;omega)
      have hxv : ¬ x = v := by simpa using hc51
      have hN2:lpI v b (j+1)=lpI v b j:=by rw [hI0,if_neg hxv]
      have hL2:(lpI v b (j+1)).length=(lpI v b j).length:=by rw [hN2]
      have hP2:ints (lpI v b (j+1))=ints (lpI v b j):=by rw [hN2]
      refine G_skip ?_
      refine G_region' (L:=[0,1,2]) rfl ?_
      refine xmv ?_
      refine p_ rfl xb2 ?_
      refine xas ?_
      refine EOps_nil ?_
      refine⟨[0,1,2,3,4],rfl,j+1,?_,?_,(by simp only [hP2];rfl),⟨.inr rfl,.inr ((by rw [hL2]<;>rfl)),trivial⟩,⟨.inr rfl,.inr rfl,.inr rfl,.inr rfl,.inr rfl,.inr rfl,.inr rfl,.inr rfl,.inr rfl,.inr rfl,.inr rfl,.inr rfl,.inr rfl,.inr rfl,trivial⟩⟩
      · first|omega|(dsimp only;omega)|(simp;omega)
      first|trivial|omega|(dsimp only;omega)|(simp;omega)
    have hj2 : j = b.vals.length := by simp [ints_len] at hc38; omega
    subst hj2
    refine G_exit ?_
    refine G_seq ?_
    refine g_tidy_A37_0 [0,1,2,3,4,5,6,7,8,9,10,11,12,15,32,38,51,65] ?_
    refine G_region' (L:=[0,1,2]) rfl ?_
    refine xmv ?_
    refine x_call rfl rfl rfl rfl rfl ca_54 (c_spec_SortInts (lpI v b b.vals.length) (by omega)) ?_
    rintro r S ⟨rfl,rfl⟩
    rw [← hR0]
    refine xas ?_
    refine EOps_nil ?_
    refine G_seq ?_
    refine G_region' (L:=[0]) rfl ?_
    refine xas ?_
    refine EOps_nil ?_
    refine G_block ?_
    refine G_drop [0,1,2,3,4,5,6,7,8,9,10,11,12] [0,1,2,3,5] rfl rfl rfl ?_
    refine g_forD_A37_1 (α:=Nat) [0,1,2,3,4,5,6,8,9,10,11,15,32,38,51] (fun m=>[(12,.c (.sc (.int .i64 ((m:Int))))),(7,.c (.sl 3 0 (lpS a b r i++lpN i (lpR a b i) m).length (lpS a b r i++lpN i (lpR a b i) m).length))]) (fun m=>[.box (crkC a),.box (crkC b),.box [.sc (.int .i64 r.1),.sc (.int .i64 r.2)],.row 173 2 (pairs (lpS a b r i++lpN i (lpR a b i) m)),.row 3 1 (ints (lpR a b i))]) (fun m=>m≤(lpR a b i).length) (fun m=>(lpR a b i).length - m) (0) ?_ ((by rw [show lpS a b r i++lpN i (lpR a b i) 0=lpS a b r i from List.append_nil _]<;>rfl)) ⟨.inr rfl,.inr ((by rw [show lpS a b r i++lpN i (lpR a b i) 0=lpS a b r i from List.append_nil _]<;>rfl)),trivial⟩ ?_
    · simp
    rintro m hml
    have hrl:=lpR_len a b i
    have hppl:(pairs (lpS a b r i++lpN i (lpR a b i) m)).length=(lpS a b r i++lpN i (lpR a b i) m).length:=pairs_len _
    have hnl:=lpN_len i (lpR a b i) m
    have hlen:(lpS a b r i++lpN i (lpR a b i) m).length≤70000:=by rw [List.length_append];omega
    refine G_seq ?_
    refine G_seq ?_
    refine G_region' (L:=[0,1,2,3]) rfl ?_
    refine xmv ?_
    refine xmv ?_
    refine p_ rfl (l_len rfl sl_24) ?_
    refine p_ rfl (L_bin rfl rfl rfl rfl) ?_
    refine EOps_nil ?_
    refine G_cond rfl (fun hc65=>?_) (fun hc65=>?_)
    · have hm1 : m < (lpR a b i).length := by simp [ints_len] at hc65; omega
      obtain⟨w,hw⟩:=at_lt (l:=lpR a b i) hm1
      have hN3:lpS a b r i++lpN i (lpR a b i) (m+1)=lpS a b r i++lpN i (lpR a b i) m++[((i:Int),w)]:=by rw [lpN_at hw,List.append_assoc]
      have hL3:(lpS a b r i++lpN i (lpR a b i) (m+1)).length=(lpS a b r i++lpN i (lpR a b i) m).length+1:=by rw [hN3,List.length_append];rfl
      have hP3:pairs (lpS a b r i++lpN i (lpR a b i) (m+1))=pairs (lpS a b r i++lpN i (lpR a b i) m)++pairs [((i:Int),w)]:=by rw [hN3];simp [pairs]
      refine G_skip ?_
      refine G_seq ?_
      refine G_block ?_
      refine G_region' (L:=[0,1,2,3,4,5,6,7,8,9]) rfl ?_
      refine xmv ?_
      refine xmv ?_
      refine xmv ?_
      refine xmv ?_
      refine p_ rfl (L_index rfl rfl (xii sl_24 ty_3)) ?_
      refine l_ rfl (L_load rfl (xb0 ty_3)) ?_
      refine p_ rfl (L_build rfl bd_173 rfl rfl) ?_
      refine EOps_go rfl rfl (Heavy.op (H_bslice_ro rfl rfl (by decide) sl_102 ty_173 za_173 ⟨rfl,by decide⟩ (by decide) rfl rfl rfl rfl ?_))
      refine EOps_go rfl rfl (EOp_append (news:=pairs [((i:Int),w)]) rfl rfl (by decide) sl_102 ty_173 by_173 za_173 ⟨rfl,by decide⟩ rfl (by first|rfl|assumption) xb7 xb8 xb9 xb10 ?_)
      refine xas ?_
      refine EOps_nil ?_
      refine G_region' (L:=[0,1,2]) rfl ?_
      refine xmv ?_
      refine p_ rfl xb2 ?_
      refine xas ?_
      refine EOps_nil ?_
      refine⟨[0,1,2,3,4],rfl,m+1,?_,?_,(by simp only [hP3];rfl),⟨.inr rfl,.inr ((by rw [hL3]<;>rfl)),trivial⟩,⟨.inr rfl,.inr rfl,.inr rfl,.inr rfl,.inr rfl,.inr rfl,.inr rfl,.inr rfl,.inr rfl,.inr rfl,.inr rfl,.inr rfl,.inr rfl,.inr rfl,.inr rfl,trivial⟩⟩
      · first|omega|(dsimp only;omega)|(simp;omega)
      first|trivial|omega|(dsimp only;omega)|(simp;omega)
    have hm2 : m = (lpR a b i).length := by simp [ints_len] at hc65; omega
    subst hm2
    have hS:lpS a b r (i+1)=lpS a b r i++lpN i (lpR a b i) (lpR a b i).length:=by rw [lpS,if_pos hW]
    refine G_exit ?_
    refine G_region' (L:=[0,1,2]) rfl ?_
    refine xmv ?_
    refine p_ rfl xb2 ?_
    refine xas ?_
    refine EOps_nil ?_
    refine⟨[0,1,2,3],rfl,i+1,?_,?_,(by rw [hS]<;>rfl),⟨.inr rfl,.inr ((by rw [hS]<;>rfl)),.inl rfl,.inl rfl,.inl rfl,.inl rfl,trivial⟩,⟨.inr rfl,.inr rfl,.inr rfl,.inr rfl,.inr rfl,.inr rfl,.inr rfl,trivial⟩⟩
    · first|omega|(dsimp only;omega)|(simp;omega)
    first|trivial|omega|(dsimp only;omega)|(simp;omega)
  have hi2 : i = 1000 := by simp at hc15; omega
  subst hi2
  refine G_exit ?_
  refine G_seq ?_
  refine G_region' (L:=[0,1]) rfl ?_
  refine xmv ?_
  refine xas ?_
  refine EOps_nil ?_
  refine G_ret ?_
  exact⟨_,[3],rfl,rfl,rfl,rfl⟩

end Go.Proofs.Ytcepgfcolmdnoaa.E
