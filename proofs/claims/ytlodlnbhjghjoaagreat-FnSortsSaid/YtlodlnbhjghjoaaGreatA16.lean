/- Walks through functions, by program out of the session's annotations. -/
import Derived.Test.YtlodlnbhjghjoaaGreatA14
import Derived.Test.YtlodlnbhjghjoaaGreatA08
namespace Go.Proofs.YtlodlnbhjghjoaaGreat.E
open Go Go.RowKit Go.Proofs
set_option linter.unusedVariables false
set_option linter.unusedSimpArgs false

def endsN (l:List (Int × Int)) (k:Nat):List Int:=(l.take k).map (·.2)
def endsL (c:Crk):List Int:=endsN c.piv c.piv.length++[(c.vals.length:Int)]
theorem endsN_step {l:List (Int × Int)} {k:Nat} {p:Int × Int} (hp:l[k]? = some p):endsN l (k+1)=endsN l k++[p.2]:=by rw [endsN,List.take_add_one,hp,List.map_append];rfl
theorem endsN_len {l:List (Int × Int)} {k:Nat} (hk:k≤l.length):(endsN l k).length=k:=by rw [endsN,List.length_map,List.length_take];omega
theorem endsL_len (c:Crk):(endsL c).length=c.piv.length+1:=by rw [endsL,List.length_append,endsN_len (Nat.le_refl _)];rfl
theorem endsL_at {c : Crk} {k : Nat} (hk : k ≤ c.piv.length) : (endsL c)[k]? = some (zOf c.piv c.vals.length k) := by
 rcases Nat.lt_or_ge k c.piv.length with h|h
 ·obtain ⟨p, hp⟩ := at_lt h
  rw [zOf_at hp,endsL,List.getElem?_append_left (by rw [endsN_len (Nat.le_refl _)];exact h),endsN,List.take_length,List.getElem?_map,hp];rfl
 obtain rfl : k = c.piv.length := by omega
 rw [zOf_end,endsL,List.getElem?_append_right (by rw [endsN_len (Nat.le_refl _)];exact Nat.le_refl _),endsN_len (Nat.le_refl _)];simp
/-- Where the last piece before number k ends. -/
def lastK (c:Crk) (k:Nat):Int:=if k=0 then 0 else zOf c.piv c.vals.length (k - 1)
theorem lastK_step (c:Crk) (k:Nat):lastK c (k+1)=zOf c.piv c.vals.length k:=by rw [lastK,if_neg (by omega),Nat.add_sub_cancel]
theorem lastK_a {c : Crk} {k : Nat} (hk : k ≤ c.piv.length) : lastK c k = aOf c.piv k := by
 rcases Nat.eq_zero_or_pos k with rfl|h0
 ·rfl
 obtain ⟨p, hp⟩ := at_lt (l := c.piv) (k := k - 1) (by omega)
 rw [lastK,if_neg (by omega),zOf_at hp]
 have:=aOf_step hp
 rw [show k - 1+1=k by omega] at this
 exact this.symm
theorem last_bounds {c : Crk} (h : isCrk c = true) {k : Nat} (hk : k ≤ c.piv.length) : 0 ≤ lastK c k ∧ lastK c k ≤ zOf c.piv c.vals.length k ∧ zOf c.piv c.vals.length k ≤ c.vals.length := by
 rw [lastK_a hk];exact cut_bounds h hk
def szP (c:Crk) (a b:Int):Int:=if srt c a b=true then b - a else 0
def partN (c : Crk) : Nat → Int
 | 0=>0
 | k+1=>partN c k+szP c (lastK c k) (zOf c.piv c.vals.length k)
theorem partN_bd {c : Crk} (h : isCrk c = true) : ∀ k, k ≤ c.piv.length + 1 → 0 ≤ partN c k ∧ partN c k ≤ lastK c k
 | 0,_=>by simp [partN,lastK]
 | k + 1, hk => by
  have ih:=partN_bd h k (by omega)
  have hb:=last_bounds h (k:=k) (by omega)
  rw [lastK_step,partN,szP]
  split<;>omega
def spart (c:Crk):Int:=if isCrk c=true then partN c (c.piv.length+1) else 0
/-- The pieces that are not empty. -/
def piecesN (c : Crk) : Nat → List (Int × Int)
 | 0=>[]
 | k+1=>if zOf c.piv c.vals.length k > lastK c k then piecesN c k++[(lastK c k,zOf c.piv c.vals.length k)] else piecesN c k
def piecesL (c:Crk):List (Int × Int):=piecesN c (c.piv.length+1)
theorem pivE_at {c : Crk} {k : Nat} (hk : k < c.piv.length + 1) : ∃ p : Int × Int, (c.piv ++ [((0 : Int), (c.vals.length : Int))])[k]? = some p ∧ p.2 = zOf c.piv c.vals.length k := by
 rcases Nat.lt_or_ge k c.piv.length with h|h
 ·obtain ⟨p, hp⟩ := at_lt h
  exact⟨p,by rw [List.getElem?_append_left h];exact hp,(zOf_at hp).symm⟩
 obtain rfl : k = c.piv.length := by omega
 exact⟨(0,c.vals.length),by rw [List.getElem?_append_right (Nat.le_refl _)];simp,(zOf_end _ _).symm⟩
theorem piecesN_len (c : Crk) : ∀ k, (piecesN c k).length ≤ k
 | 0=>Nat.le_refl _
 | k + 1 => by
  have:=piecesN_len c k
  rw [piecesN]
  split
  ·simp;omega
  omega
def sumP (c:Crk) (l:List (Int × Int)):Int:=(l.map fun p=>szP c p.1 p.2).sum
theorem sumP_snoc (c:Crk) (l:List (Int × Int)) (p:Int × Int):sumP c (l++[p])=sumP c l+szP c p.1 p.2:=by simp [sumP]
theorem sum_pieces {c : Crk} (h : isCrk c = true) : ∀ k, k ≤ c.piv.length + 1 → sumP c (piecesN c k) = partN c k
 | 0,_=>rfl
 | k + 1, hk => by
  have ih:=sum_pieces h k (by omega)
  have hb:=last_bounds h (k:=k) (by omega)
  rw [piecesN,partN]
  split
  ·rw [sumP_snoc,ih]
  rw [ih, szP]
  split<;>omega
theorem pieces_in {c : Crk} (h : isCrk c = true) : ∀ k, k ≤ c.piv.length + 1 → ∀ p ∈ piecesN c k, 0 ≤ p.1 ∧ p.1 ≤ p.2 ∧ p.2 ≤ c.vals.length
 | 0,_=>by simp [piecesN]
 | k + 1, hk => by
  have ih:=pieces_in h k (by omega)
  have hb:=last_bounds h (k:=k) (by omega)
  rw [piecesN]
  split
  ·intro p hp
   rcases List.mem_append.1 hp with hp|hp
   ·exact ih p hp
   obtain rfl : p = _ := by simpa using hp
   exact⟨hb.1,by dsimp only;omega,hb.2.2⟩
  exact ih
theorem szP_bd {c : Crk} {a b : Int} (h : 0 ≤ a ∧ a ≤ b ∧ b ≤ 64) : 0 ≤ szP c a b ∧ szP c a b ≤ 64 := by
 rw [szP];split<;>omega
theorem sumP_bd {c : Crk} : ∀ (l : List (Int × Int)), (∀ p ∈ l, 0 ≤ p.1 ∧ p.1 ≤ p.2 ∧ p.2 ≤ 64) → 0 ≤ sumP c l ∧ sumP c l ≤ 64 * l.length
 | [],_=>by simp [sumP]
 | p :: l, h => by
  have h1:=sumP_bd (c:=c) l fun q hq=>h q (List.mem_cons_of_mem _ hq)
  have h2:=szP_bd (c:=c) (h p (List.mem_cons_self ..))
  have h3:sumP c (p::l)=szP c p.1 p.2+sumP c l:=by simp [sumP]
  rw [h3,List.length_cons]
  omega

set_option maxRecDepth 20000 in
set_option maxHeartbeats 2000000 in
theorem c_slices_Clone___impl_Pivot_impl_Pivot_0 (xs : List (Int × Int)) (hn : xs.length ≤ 1048576) : EFn Tryz.prog 178 [.c (.ro (pairs xs))] [] (fun r S => (r = .c (.sl 0 0 xs.length xs.length) ∧ S = [.row 151 2 (pairs xs)]) ∨ (r = .c (.sc (.slice none 0 0)) ∧ S = [] ∧ xs = [])) := by
 refine E_fn Tryz.func178 rfl (Nat.le_of_ble_eq_true rfl) ?_
 refine E_seq ?_
 refine E_region' (L:=[0]) rfl ?_
 refine xas ?_
 refine EOps_nil ?_
 refine E_seq ?_
 refine E_seq ?_
 refine E_region' (L:=[0,1]) rfl ?_
 refine xmv ?_
 refine EOps_go rfl rfl (Heavy.op (H_nil rfl rfl (by decide) sl_47 rfl ?_))
 rintro b4 hb4
 refine EOps_nil ?_
 refine E_cond rfl (fun hc4=>?_) (fun hc4=>?_)
 ·have he : xs = [] := by
   have h0:=hb4 hc4
   cases xs with
   | nil=>rfl
   | cons a l=>simp [pairs] at h0
  refine E_seq ?_
  refine E_region' (L:=[0]) rfl ?_
  refine xas ?_
  refine EOps_nil ?_
  refine E_ret ?_
  exact⟨_,[],rfl,rfl,.inr ⟨rfl,rfl,he⟩⟩
 refine E_skip ?_
 refine E_seq ?_
 refine E_region' (L:=[0,1,2,3]) rfl ?_
 refine EOps_go rfl rfl (Heavy.op (H_bslice rfl rfl (by decide) sl_47 ty_151 za_151 ⟨rfl,by decide⟩ (by decide) rfl rfl rfl rfl ?_))
 refine xmv ?_
 refine EOps_go rfl rfl (EOp_append (news:=pairs xs) rfl rfl (by decide) sl_47 ty_151 by_151 za_151 ⟨rfl,by decide⟩ rfl (by first|rfl|assumption) xb6 xb7 xb8 xb9 ?_)
 refine xas ?_
 refine EOps_nil ?_
 refine E_ret ?_
 refine⟨_,[0],rfl,rfl,.inl ⟨?_,?_⟩⟩
 ·simp [AV.ren,ren_sc,ren_ro,AC.ren,AC.ren.rens,ix,rv1,E.get,E.ev,E.cv,E.fill',E.fill,E.slotsOf,pairs_len]
 simp [reR,Res.ren,chunk]

theorem c_slices_Clone___impl_Pivot_impl_Pivot_ (xs : List (Int × Int)) (hn : xs.length ≤ 1048576) : EFn Tryz.prog 178 [.c (.ro (pairs xs))] [] (fun r S => r = .c (.sl 0 0 xs.length xs.length) ∧ S = [.row 151 2 (pairs xs)]) :=
 (c_slices_Clone___impl_Pivot_impl_Pivot_0 xs hn).ghost (by
  rintro r S (⟨rfl,rfl⟩|⟨rfl,rfl,rfl⟩)
  ·exact .inl ⟨rfl,rfl⟩
  exact .inr (.inr ⟨_,.sl 0 0 0 0,[some (151,2)],rfl,rfl,rfl,rfl,rfl⟩))

set_option maxRecDepth 20000 in
set_option maxHeartbeats 2000000 in
theorem c_spec_l4Ends (c : Crk) (h : c.piv.length ≤ 1048576) : EFn Tryz.prog 164 [.agg (crkC c)] [] (fun r S => r = .c (.sl 0 0 (c.piv.length + 1) (c.piv.length + 1)) ∧ S = [.row 3 1 (ints (endsL c))]) := by
 refine E_fn Tryz.func164 rfl (Nat.le_of_ble_eq_true rfl) ?_
 refine E_seq ?_
 refine E_region' (L:=[0,1]) rfl ?_
 refine x_box rfl rfl rfl rfl rfl ?_
 refine xas ?_
 refine EOps_nil ?_
 refine E_seq ?_
 refine E_region' (L:=[0,1]) rfl ?_
 refine EOps_go rfl rfl (Heavy.op (H_bslice rfl rfl (by decide) sl_22 ty_3 za_3 ⟨rfl,by decide⟩ (by decide) rfl rfl rfl rfl ?_))
 refine xas ?_
 refine EOps_nil ?_
 refine E_seq ?_
 refine E_seq ?_
 refine E_region' (L:=[0]) rfl ?_
 refine xas ?_
 refine EOps_nil ?_
 refine E_block ?_
 refine e_for (α:=Nat) [0,1,2] (fun k=>[(4,.c (.sc (.int .i64 (k)))),(3,.c (.sl 1 0 k k))]) (fun k=>[.box (crkC c),.row 3 1 (ints (endsN c.piv k))]) (fun k=>k≤c.piv.length) (fun k=>c.piv.length - k) (0) ?_ (rfl) ⟨.inr rfl,.inr rfl,trivial⟩ ?_
 ·simp
 rintro k hk
 refine E_seq ?_
 refine E_seq ?_
 refine E_region' (L:=[0,1,2,3,4]) rfl ?_
 refine xmv ?_
 refine p_ rfl (l_field rfl fo_49_2) ?_
 refine l_ rfl (L_load rfl (xb0 ty_47)) ?_
 refine p_ rfl (l_len rfl sl_47) ?_
 refine p_ rfl (L_bin rfl rfl rfl rfl) ?_
 refine EOps_nil ?_
 refine E_cond rfl (fun hc10=>?_) (fun hc10=>?_)
 ·have hc10' : k < (c.piv).length := by simpa [ints_len, bools_len, pairs_len, quads_len, quints_len] using hc10
  obtain⟨p,hp⟩:∃ x,(c.piv)[k]? = some x:=⟨_,List.getElem?_eq_getElem hc10'⟩
  have hel:(ints (endsN c.piv k)).length=k:=by rw [ints_len,endsN_len (by omega)]
  refine E_skip ?_
  refine E_seq ?_
  refine E_block ?_
  refine E_region' (L:=[0,1,2,3,4,5,6,7,8,9]) rfl ?_
  refine xmv ?_
  refine p_ rfl (l_field rfl fo_49_2) ?_
  refine l_ rfl (L_load rfl (xb0 ty_47)) ?_
  refine xmv ?_
  refine p_ rfl (L_index rfl rfl (xii sl_47 ty_151)) ?_
  refine p_ rfl (l_field rfl fo_151_1) ?_
  refine l_ rfl (L_load rfl (xb0 ty_3)) ?_
  refine EOps_go rfl rfl (Heavy.op (H_bslice_ro rfl rfl (by decide) sl_22 ty_3 za_3 ⟨rfl,by decide⟩ (by decide) rfl rfl rfl rfl ?_))
  refine EOps_go rfl rfl (EOp_append (news:=[[T.sc (.int .i64 p.2)]]) rfl rfl (by decide) sl_22 ty_3 by_3 za_3 ⟨rfl,by decide⟩ rfl (by first|rfl|assumption) xb6 xb7 xb8 xb9 ?_)
  refine xas ?_
  refine EOps_nil ?_
  refine E_region' (L:=[0,1,2]) rfl ?_
  refine xmv ?_
  refine p_ rfl xb2 ?_
  refine xas ?_
  refine EOps_nil ?_
  refine⟨k+1,?_,?_,by simp [endsN_step hp,ints],⟨.inr rfl,.inr rfl,trivial⟩,⟨.inr rfl,.inr rfl,.inr rfl,trivial⟩⟩
  ·first|omega|(dsimp only;omega)|(simp;omega)
  first|trivial|omega|(dsimp only;omega)|(simp;omega)
 have hkk : k = c.piv.length := by simp [pairs_len] at hc10; omega
 have hel:(ints (endsN c.piv k)).length=k:=by rw [ints_len,endsN_len (by omega)]
 refine E_exit ?_
 refine E_seq ?_
 refine E_region' (L:=[0,1,2,3,4,5,6]) rfl ?_
 refine xmv ?_
 refine p_ rfl (l_field rfl fo_49_0) ?_
 refine l_ rfl (L_load rfl (xb0 ty_22)) ?_
 refine p_ rfl (l_len rfl sl_22) ?_
 refine EOps_go rfl rfl (Heavy.op (H_bslice_ro rfl rfl (by decide) sl_22 ty_3 za_3 ⟨rfl,by decide⟩ (by decide) rfl rfl rfl rfl ?_))
 refine EOps_go rfl rfl (EOp_append (news:=[[T.sc (.int .i64 (ints c.vals).length)]]) rfl rfl (by decide) sl_22 ty_3 by_3 za_3 ⟨rfl,by decide⟩ rfl (by first|rfl|assumption) xb6 xb7 xb8 xb9 ?_)
 refine xas ?_
 refine EOps_nil ?_
 refine E_ret ?_
 subst hkk
 refine⟨_,[1],rfl,rfl,rfl,?_⟩
 simp [reR,Res.ren,endsL,ints,ints_len]

set_option maxRecDepth 20000 in
set_option maxHeartbeats 2000000 in
theorem c_impl_pieces (c : Crk) (h : isCrk c = true) : EFn Tryz.prog 160 [.agg (crkC c)] [] (fun r S => r = .c (.sl 0 0 (piecesL c).length (piecesL c).length) ∧ S = [.row 175 2 (pairs (piecesL c))]) := by
 refine E_fn Tryz.func160 rfl (Nat.le_of_ble_eq_true rfl) ?_
 refine E_G (n:=0) rfl ?_
 have hl:=crk_lens h
 have hpl:(pairs c.piv).length=c.piv.length:=pairs_len _
 refine G_seq ?_
 refine G_region' (L:=[0,1]) rfl ?_
 refine x_box rfl rfl rfl rfl rfl ?_
 refine xas ?_
 refine EOps_nil ?_
 refine G_seq ?_
 refine G_region' (L:=[0,1,2]) rfl ?_
 refine EOps_go rfl rfl (Heavy.op (H_bslice rfl rfl (by decide) sl_173 ty_175 za_175 ⟨rfl,by decide⟩ (by decide) rfl rfl rfl rfl ?_))
 refine xas ?_
 refine xas ?_
 refine EOps_nil ?_
 refine G_seq ?_
 refine g_seqJ (α:=Unit) [0,1,2] (fun _=>[(16,.c (.sl 2 0 (c.piv.length+1) (c.piv.length+1))),(17,.c (.sc (.int .i64 ((c.piv.length+1:Nat))))),(18,.c (.sc (.int .i64 (0)))),(3,.c (.sl 1 0 0 0)),(4,.c (.sc (.int .i64 (0))))]) (fun _=>[.box (crkC c),.row 175 2 (pairs (piecesN c 0)),.row 151 2 (pairs (c.piv++[((0:Int),(c.vals.length:Int))]))]) (fun _=>True) ?_ ?_
 ·refine g_tidy [0, 1, 2, 3, 4] ?_
  refine G_drawT mixed ?_
  refine tj_ 0 rfl (l_field rfl fo_49_2) ?_
  refine tl_ 1 rfl (L_load rfl (xb0 ty_47)) ?_
  refine tj_ 3 rfl (l_field rfl fo_49_0) ?_
  refine tl_ 4 rfl (L_load rfl (xb0 ty_22)) ?_
  refine tj_ 5 rfl (l_len rfl sl_22) ?_
  refine tj_ 6 rfl (L_build rfl bd_151 rfl rfl) ?_
  refine tj_ 10 rfl (L_move rfl) ?_
  refine t_two 2 7 ?_ ?_
  ·refine s_call 2 rfl rfl rfl rfl rfl ca_178 (c_slices_Clone___impl_Pivot_impl_Pivot_ c.piv (by omega)) ?_
   rintro r S ⟨rfl,rfl⟩
   refine t_heavy 7 rfl rfl rfl (V_bslice_ro rfl sl_47 ty_151 za_151 ⟨rfl,by decide⟩ (by decide) rfl rfl rfl rfl ?_)
   refine t_turn 8 rfl rfl (EOp_append (news:=[[T.sc (.int .i64 0),T.sc (.int .i64 (ints c.vals).length)]]) rfl rfl (by decide) sl_47 ty_151 by_151 za_151 ⟨rfl,by decide⟩ rfl (by first|rfl|assumption) xb6 xb7 xb8 xb9 ?_)
   refine tj_ 9 rfl (l_len rfl sl_47) ?_
   refine T_done (by kernel_rfl) ?_
   skip
   refine⟨(),?_,by first|rfl|(simp [pairs,ints_len,chunk,piecesN];done)|(simp [pairs,ints_len,chunk,piecesN];rfl),⟨.inr rfl,.inr rfl,.inr rfl,.inr rfl,.inr rfl,trivial⟩,⟨.inr rfl,.inr rfl,.inr rfl,trivial⟩⟩
   trivial
  refine s_heavy 7 rfl rfl rfl (V_bslice_ro rfl sl_47 ty_151 za_151 ⟨rfl, by decide⟩ (by decide) rfl rfl rfl rfl ?_)
  refine t_call 2 rfl rfl rfl rfl rfl ca_178 (c_slices_Clone___impl_Pivot_impl_Pivot_ c.piv (by omega)) ?_
  rintro r S ⟨rfl,rfl⟩
  refine t_turn 8 rfl rfl (EOp_append (news:=[[T.sc (.int .i64 0),T.sc (.int .i64 (ints c.vals).length)]]) rfl rfl (by decide) sl_47 ty_151 by_151 za_151 ⟨rfl,by decide⟩ rfl (by first|rfl|assumption) xb6 xb7 xb8 xb9 ?_)
  refine tj_ 9 rfl (l_len rfl sl_47) ?_
  refine T_done (by kernel_rfl) ?_
  skip
  refine⟨(),?_,by first|rfl|(simp [pairs,ints_len,chunk,piecesN];done)|(simp [pairs,ints_len,chunk,piecesN];rfl),⟨.inr rfl,.inr rfl,.inr rfl,.inr rfl,.inr rfl,trivial⟩,⟨.inr rfl,.inr rfl,.inr rfl,trivial⟩⟩
  trivial
 rintro _ hI
 refine G_block ?_
 refine g_forD (α:=Nat) [0,1,2,16,17] (fun k=>[(18,.c (.sc (.int .i64 (k)))),(4,.c (.sc (.int .i64 ((lastK c k))))),(3,.c (.sl 1 0 (piecesN c k).length (piecesN c k).length))]) (fun k=>[.box (crkC c),.row 175 2 (pairs (piecesN c k)),.row 151 2 (pairs (c.piv++[((0:Int),(c.vals.length:Int))]))]) (fun k=>k≤c.piv.length+1) (fun k=>c.piv.length+1 - k) (0) ?_ (by first|rfl|(simp [pairs,ints_len,chunk,piecesN];done)|(simp [pairs,ints_len,chunk,piecesN];rfl)) ⟨.inr rfl,.inr rfl,.inr rfl,trivial⟩ ?_
 ·simp
 rintro k hk
 have hel:(pairs (piecesN c k)).length=(piecesN c k).length:=pairs_len _
 have hel2:(pairs (c.piv++[((0:Int),(c.vals.length:Int))])).length=c.piv.length+1:=by simp [pairs_len]
 have hpn:=piecesN_len c k
 refine G_seq ?_
 refine G_region' (L:=[0]) rfl ?_
 refine p_ rfl (L_bin rfl rfl rfl rfl) ?_
 refine EOps_nil ?_
 refine G_seq ?_
 refine G_cond rfl (fun hc19=>?_) (fun hc19=>?_)
 ·have hk1 : k < c.piv.length + 1 := by simp at hc19; omega
  obtain⟨p,hp,hp2⟩:=pivE_at (c:=c) hk1
  refine G_skip ?_
  refine G_seq ?_
  refine G_block ?_
  refine G_seq ?_
  refine G_region' (L:=[0,1,2,3]) rfl ?_
  refine p_ rfl (L_index rfl rfl (xii sl_47 ty_151)) ?_
  refine l_ rfl (L_load rfl (xb0 ty_151)) ?_
  refine x_alloc rfl rfl rfl rfl za_151 ?_
  refine EOps_go rfl rfl (EOp_store rfl rfl rfl (xb1 ty_151) ?_)
  refine EOps_nil ?_
  refine G_seq ?_
  refine G_seq ?_
  refine G_region' (L:=[0,1,2,3]) rfl ?_
  refine p_ rfl (l_field rfl fo_151_1) ?_
  refine l_ rfl (L_load rfl (xb0 ty_3)) ?_
  refine xmv ?_
  refine p_ rfl (L_bin rfl rfl rfl rfl) ?_
  refine EOps_nil ?_
  refine G_cond rfl (fun hc25=>?_) (fun hc25=>?_)
  ·have hS : piecesN c (k + 1) = piecesN c k ++ [(lastK c k, p.2)] := by rw [piecesN, if_pos (by rw [← hp2]; simpa using hc25), hp2]
   have hL:(piecesN c (k+1)).length=(piecesN c k).length+1:=by rw [hS,List.length_append];rfl
   have hP:pairs (piecesN c (k+1))=pairs (piecesN c k)++[[T.sc (.int .i64 (lastK c k)),T.sc (.int .i64 p.2)]]:=by rw [hS];simp [pairs]
   refine G_region' (L:=[0,1,2,3,4,5,6,7]) rfl ?_
   refine xmv ?_
   refine xmv ?_
   refine p_ rfl (l_field rfl fo_151_1) ?_
   refine l_ rfl (L_load rfl (xb0 ty_3)) ?_
   refine p_ rfl (L_build rfl bd_175 rfl rfl) ?_
   refine EOps_go rfl rfl (Heavy.op (H_bslice_ro rfl rfl (by decide) sl_173 ty_175 za_175 ⟨rfl,by decide⟩ (by decide) rfl rfl rfl rfl ?_))
   refine EOps_go rfl rfl (EOp_append (news:=[[T.sc (.int .i64 (lastK c k)),T.sc (.int .i64 p.2)]]) rfl rfl (by decide) sl_173 ty_175 by_175 za_175 ⟨rfl,by decide⟩ rfl (by first|rfl|assumption) xb6 xb7 xb8 xb9 ?_)
   refine xas ?_
   refine EOps_nil ?_
   refine G_region' (L:=[0,1,2]) rfl ?_
   refine p_ rfl (l_field rfl fo_151_1) ?_
   refine l_ rfl (L_load rfl (xb0 ty_3)) ?_
   refine xas ?_
   refine EOps_nil ?_
   refine G_region' (L:=[0,1]) rfl ?_
   refine p_ rfl xb2 ?_
   refine xmv ?_
   refine EOps_nil ?_
   refine⟨[0,1,2],rfl,k+1,?_,?_,by simp only [hP];rfl,⟨.inr rfl,.inr (int_eq (hp2.trans (lastK_step c k).symm)),.inr ((by rw [hL]<;>rfl)),trivial⟩,⟨.inr rfl,.inr rfl,.inr rfl,.inr rfl,.inr rfl,trivial⟩⟩
   ·first|omega|(dsimp only;omega)|(simp;omega)
   first|trivial|omega|(dsimp only;omega)|(simp;omega)
  have hS : piecesN c (k + 1) = piecesN c k := by rw [piecesN, if_neg (by rw [← hp2]; simpa using hc25)]
  have hL:(piecesN c (k+1)).length=(piecesN c k).length:=by rw [hS]
  have hP:pairs (piecesN c (k+1))=pairs (piecesN c k):=by rw [hS]
  refine G_skip ?_
  refine G_region' (L:=[0,1,2]) rfl ?_
  refine p_ rfl (l_field rfl fo_151_1) ?_
  refine l_ rfl (L_load rfl (xb0 ty_3)) ?_
  refine xas ?_
  refine EOps_nil ?_
  refine G_region' (L:=[0,1]) rfl ?_
  refine p_ rfl xb2 ?_
  refine xmv ?_
  refine EOps_nil ?_
  refine⟨[0,1,2],rfl,k+1,?_,?_,by simp only [hP];rfl,⟨.inr rfl,.inr (int_eq (hp2.trans (lastK_step c k).symm)),.inr ((by rw [hL]<;>rfl)),trivial⟩,⟨.inr rfl,.inr rfl,.inr rfl,.inr rfl,.inr rfl,trivial⟩⟩
  ·first|omega|(dsimp only;omega)|(simp;omega)
  first|trivial|omega|(dsimp only;omega)|(simp;omega)
 have hkk : k = c.piv.length + 1 := by simp at hc19; omega
 refine G_exit ?_
 refine G_seq ?_
 refine G_region' (L:=[0,1]) rfl ?_
 refine xmv ?_
 refine xas ?_
 refine EOps_nil ?_
 refine G_ret ?_
 subst hkk
 exact⟨_,[1],rfl,rfl,rfl,rfl⟩

set_option maxRecDepth 20000 in
set_option maxHeartbeats 2000000 in
theorem c_impl_SortedPart (c : Crk) : EFn Tryz.prog 81 [.agg (crkC c)] [] (fun r S => r = .c (.sc (.int .i64 (spart c))) ∧ S = []) := by
 refine E_fn Tryz.func81 rfl (Nat.le_of_ble_eq_true rfl) ?_
 refine E_G (n:=0) rfl ?_
 refine G_seq ?_
 refine G_region' (L:=[0,1]) rfl ?_
 refine x_box rfl rfl rfl rfl rfl ?_
 refine xas ?_
 refine EOps_nil ?_
 refine G_seq ?_
 refine G_seq ?_
 refine g_tidy [0,1,2] ?_
 refine G_region' (L:=[0,1,2]) rfl ?_
 refine l_ rfl (L_load rfl (xb0 ty_49)) ?_
 refine x_call rfl rfl rfl rfl rfl ca_46 (c_impl_IsCracker c) ?_
 rintro r S ⟨rfl,rfl⟩
 refine p_ rfl (L_not rfl rfl) ?_
 refine EOps_nil ?_
 refine G_cond rfl (fun hc8=>?_) (fun hc8=>?_)
 ·have he : (0 : Int) = spart c := by
   have hcc:isCrk c=false:=by simpa using hc8
   rw [spart,hcc];rfl
  refine G_seq ?_
  refine G_region' (L:=[0]) rfl ?_
  refine xas ?_
  refine EOps_nil ?_
  refine G_ret ?_
  refine⟨_,[],rfl,rfl,int_eq ?_,rfl⟩
  exact he
 have hc : isCrk c = true := by simpa using hc8
 have hl:=crk_lens hc
 refine G_skip ?_
 refine G_seq ?_
 refine G_region' (L:=[0]) rfl ?_
 refine xas ?_
 refine EOps_nil ?_
 refine G_seq ?_
 refine G_seq ?_
 refine g_tidy [0,1,2,3,8] ?_
 refine G_region' (L:=[0,1,2,3]) rfl ?_
 refine l_ rfl (L_load rfl (xb0 ty_49)) ?_
 refine x_call rfl rfl rfl rfl rfl ca_160 (c_impl_pieces c hc) ?_
 rintro r S ⟨rfl,rfl⟩
 refine p_ rfl (l_len rfl sl_173) ?_
 refine xmv ?_
 refine EOps_nil ?_
 refine G_block ?_
 refine g_forD (α:=Nat) [0,1,2,8,10,11] (fun k=>[(12,.c (.sc (.int .i64 (k)))),(3,.c (.sc (.int .i64 ((sumP c ((piecesL c).take k))))))]) (fun _=>_) (fun k=>k≤(piecesL c).length) (fun k=>(piecesL c).length - k) (0) ?_ (rfl) ⟨.inr rfl,.inr rfl,trivial⟩ ?_
 ·simp
 rintro k hk
 have hel:(pairs (piecesL c)).length=(piecesL c).length:=pairs_len _
 refine G_seq ?_
 refine G_region' (L:=[0]) rfl ?_
 refine p_ rfl (L_bin rfl rfl rfl rfl) ?_
 refine EOps_nil ?_
 refine G_seq ?_
 refine G_cond rfl (fun hc13=>?_) (fun hc13=>?_)
 ·have hk1 : k < (piecesL c).length := by simpa using hc13
  obtain⟨p,hp⟩:=at_lt hk1
  have hpi:=pieces_in hc (c.piv.length+1) (Nat.le_refl _)
  have hpb:=hpi p (List.mem_of_getElem? hp)
  have hsb:=sumP_bd (c:=c) ((piecesL c).take k) (fun q hq=>by have:=hpi q (List.mem_of_mem_take hq);omega)
  have hln:((piecesL c).take k).length=k:=by rw [List.length_take];omega
  have hsz:=piecesN_len c (c.piv.length+1)
  have hszL:(piecesL c).length≤c.piv.length+1:=hsz
  rw [hln] at hsb
  have hst:sumP c ((piecesL c).take (k+1))=sumP c ((piecesL c).take k)+szP c p.1 p.2:=by rw [take_snoc hp,sumP_snoc]
  refine G_skip ?_
  refine G_seq ?_
  refine G_block ?_
  refine G_seq ?_
  refine G_region' (L:=[0,1,2,3]) rfl ?_
  refine p_ rfl (L_index rfl rfl (xii sl_173 ty_175)) ?_
  refine l_ rfl (L_load rfl (xb0 ty_175)) ?_
  refine x_alloc rfl rfl rfl rfl za_175 ?_
  refine EOps_go rfl rfl (EOp_store rfl rfl rfl (xb1 ty_175) ?_)
  refine EOps_nil ?_
  refine G_seq ?_
  refine g_tidy [0,1,2,3,5,8,10,11,12,13,21] ?_
  refine G_region' (L:=[0,1,2,3,4,5]) rfl ?_
  refine l_ rfl (L_load rfl (xb0 ty_49)) ?_
  refine p_ rfl (L_index rfl rfl (iav_ar ar_175 ty_3 (by decide) (by decide) rfl rfl)) ?_
  refine l_ rfl (L_load rfl (xb0 ty_3)) ?_
  refine p_ rfl (L_index rfl rfl (iav_ar ar_175 ty_3 (by decide) (by decide) rfl rfl)) ?_
  refine l_ rfl (L_load rfl (xb0 ty_3)) ?_
  refine x_call rfl rfl rfl rfl rfl ca_167 (c_impl_sorted c p.1 p.2 ⟨hpb.1,hpb.2.1,hpb.2.2,hl.2.1,hl.1⟩) ?_
  rintro r S ⟨rfl,rfl⟩
  refine EOps_nil ?_
  refine G_cond rfl (fun hc21=>?_) (fun hc21=>?_)
  ·have hN : sumP c ((piecesL c).take (k + 1)) = sumP c ((piecesL c).take k) + (p.2 - p.1) := by rw [hst, szP, if_pos hc21]
   refine G_region' (L:=[0,1,2,3,4,5,6,7]) rfl ?_
   refine xmv ?_
   refine p_ rfl (L_index rfl rfl (iav_ar ar_175 ty_3 (by decide) (by decide) rfl rfl)) ?_
   refine l_ rfl (L_load rfl (xb0 ty_3)) ?_
   refine p_ rfl (L_index rfl rfl (iav_ar ar_175 ty_3 (by decide) (by decide) rfl rfl)) ?_
   refine l_ rfl (L_load rfl (xb0 ty_3)) ?_
   refine p_ rfl xb5 ?_
   refine p_ rfl xb2 ?_
   refine xas ?_
   refine EOps_nil ?_
   refine G_region' (L:=[0,1]) rfl ?_
   refine p_ rfl xb2 ?_
   refine xmv ?_
   refine EOps_nil ?_
   refine⟨[0,1],rfl,k+1,?_,?_,rfl,⟨.inr rfl,.inr (int_eq hN.symm),trivial⟩,⟨.inr rfl,.inr rfl,.inr rfl,.inr rfl,.inr rfl,.inr rfl,trivial⟩⟩
   ·first|omega|(dsimp only;omega)|(simp;omega)
   first|trivial|omega|(dsimp only;omega)|(simp;omega)
  have hN : sumP c ((piecesL c).take (k + 1)) = sumP c ((piecesL c).take k) := by rw [hst, szP, hc21]; simp
  refine G_skip ?_
  refine G_region' (L:=[0,1]) rfl ?_
  refine p_ rfl xb2 ?_
  refine xmv ?_
  refine EOps_nil ?_
  refine⟨[0,1],rfl,k+1,?_,?_,rfl,⟨.inr rfl,.inr (int_eq hN.symm),trivial⟩,⟨.inr rfl,.inr rfl,.inr rfl,.inr rfl,.inr rfl,.inr rfl,trivial⟩⟩
  ·first|omega|(dsimp only;omega)|(simp;omega)
  first|trivial|omega|(dsimp only;omega)|(simp;omega)
 have hkk : (piecesL c).length ≤ k := by simpa using hc13
 have he:sumP c ((piecesL c).take k)=spart c:=by rw [List.take_of_length_le hkk,spart,if_pos hc];exact sum_pieces hc _ (Nat.le_refl _)
 refine G_exit ?_
 refine G_seq ?_
 refine G_region' (L:=[0,1]) rfl ?_
 refine xmv ?_
 refine xas ?_
 refine EOps_nil ?_
 refine G_ret ?_
 refine⟨_,[],rfl,rfl,int_eq ?_,rfl⟩
 exact he

end Go.Proofs.YtlodlnbhjghjoaaGreat.E
