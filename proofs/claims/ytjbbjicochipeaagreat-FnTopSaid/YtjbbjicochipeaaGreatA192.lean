/- Walks through functions, by program out of the session's annotations. -/
import Derived.Test.YtjbbjicochipeaaGreatA191
import Derived.Test.YtjbbjicochipeaaGreatA190
import Derived.Test.YtjbbjicochipeaaGreatA45
namespace Go.Proofs.YtjbbjicochipeaaGreat.E
open Go Go.RowKit Go.Proofs
set_option linter.unusedVariables false
set_option linter.unusedSimpArgs false

/-! The certified bound: every division takes as much off a measure of what may still come as it costs. -/
theorem levT_mono (t : Nat) : ∀ (f g n m : Nat), n ≤ m → m ≤ g → n ≤ f → levT t f n ≤ levT t g m
 | 0,g,n,m,_,_,_=>by simp [levT]
 | f + 1, 0, n, m, h, hm, _ => by
  obtain rfl:n=0:=by omega
  simp [levT]
 | f + 1, g + 1, n, m, h, hm, hn => by
  rw [levT,levT]
  by_cases h1:n≤t
  ·rw [if_pos h1];omega
  rw [if_neg h1, if_neg (by omega)]
  have:=levT_mono t f g (n / 2) (m / 2) (by omega) (by omega) (by omega)
  omega
def sumF (f : Int → Nat) : List Int → Nat
 | []=>0
 | x::l=>f x+sumF f l
theorem sumF_perm (f : Int → Nat) {l m : List Int} (h : l.Perm m) : sumF f l = sumF f m := by
 induction h with
 | nil=>rfl
 | cons x _ ih=>rw [sumF,sumF,ih]
 | swap x y l=>simp only [sumF];omega
 | trans _ _ h1 h2=>exact h1.trans h2
theorem sumF_mono {f g : Int → Nat} : ∀ {l : List Int}, (∀ x ∈ l, f x ≤ g x) → sumF f l ≤ sumF g l
 | [],_=>Nat.le_refl _
 | x :: l, h => by
  have h1:=h x (List.mem_cons_self ..)
  have h2:=sumF_mono (l:=l) fun y hy=>h y (List.mem_cons_of_mem _ hy)
  simp only [sumF];omega
theorem sumF_cnt {f g : Int → Nat} {p : Int → Bool} : ∀ {l : List Int}, (∀ x ∈ l, f x ≤ g x ∧ (p x = true → f x + 1 ≤ g x)) → sumF f l + l.countP p ≤ sumF g l
 | [],_=>by simp [sumF]
 | x :: l, h => by
  have h1:=h x (List.mem_cons_self ..)
  have h2:=sumF_cnt (l:=l) (p:=p) fun y hy=>h y (List.mem_cons_of_mem _ hy)
  simp only [sumF,List.countP_cons]
  cases hp:p x
  ·simp only [Bool.false_eq_true,if_false];omega
  have := h1.2 hp
  simp only [if_true];omega
theorem sumF_one {f g : Int → Nat} {m : Int} {n : Nat} : ∀ {l : List Int}, (∀ x ∈ l, f x ≤ g x) → m ∈ l → f m + n ≤ g m → sumF f l + n ≤ sumF g l
 | x :: l, h, hm, hn => by
  have h1:=h x (List.mem_cons_self ..)
  rcases List.mem_cons.1 hm with e|e
  ·subst e
   have h2:=sumF_mono (l:=l) fun y hy=>h y (List.mem_cons_of_mem _ hy)
   simp only [sumF];omega
  have h2 := sumF_one (l := l) (fun y hy => h y (List.mem_cons_of_mem _ hy)) e hn
  simp only [sumF];omega
theorem sumF_bd {f : Int → Nat} {b : Nat} : ∀ {l : List Int}, (∀ x ∈ l, f x ≤ b) → sumF f l ≤ l.length * b
 | [],_=>by simp [sumF]
 | x :: l, h => by
  have h1:=h x (List.mem_cons_self ..)
  have h2:=sumF_bd (l:=l) fun y hy=>h y (List.mem_cons_of_mem _ hy)
  rw [sumF,List.length_cons,Nat.succ_mul];omega
/-- No pivot stands between. -/
def sameP (P:List (Int × Int)) (x y:Int):Bool:=P.all fun p=>decide (p.1≤x) == decide (p.1≤y)
theorem sameP_iff {P : List (Int × Int)} {x y : Int} : sameP P x y = true ↔ ∀ p ∈ P, (p.1 ≤ x ↔ p.1 ≤ y) := by
 simp only [sameP,List.all_eq_true,beq_iff_eq,decide_eq_decide]
theorem sameP_eq {P : List (Int × Int)} {x y : Int} (h : sameP P x y = true) : sameP P x = sameP P y := by
 have h1:=sameP_iff.1 h
 funext z
 rw [Bool.eq_iff_iff,sameP_iff,sameP_iff]
 exact⟨fun k p hp=>(h1 p hp).symm.trans (k p hp),fun k p hp=>(h1 p hp).trans (k p hp)⟩
def szQ (V:List Int) (P:List (Int × Int)) (x:Int):Nat:=V.countP (sameP P x)
/-- A piece that holds one value. -/
def unP (P:List (Int × Int)) (x:Int):Bool:=isPv P x && isPv P (x+1)
def phi (V:List Int) (s:Sett) (P:List (Int × Int)) (x:Int):Nat:=if unP P x=true then 0 else if s.pol=1 then levT s.thr.toNat 64 (szQ V P x) else V.length
def Phi (V:List Int) (s:Sett) (P:List (Int × Int)):Nat:=sumF (phi V s P) V
theorem Phi_perm {V W : List Int} (h : V.Perm W) (s : Sett) (P : List (Int × Int)) : Phi V s P = Phi W s P := by
 have e : phi V s P = phi W s P := by
  funext x
  simp only [phi,szQ,h.countP_eq,h.length_eq]
 rw [Phi,Phi,e,sumF_perm _ h]
theorem Phi_set {V : List Int} {s t : Sett} (hp : t.pol = s.pol) (ht : t.thr = s.thr) (P : List (Int × Int)) : Phi V t P = Phi V s P := by
 have e : phi V t P = phi V s P := by
  funext x
  simp only [phi,hp,ht]
 rw [Phi,Phi,e]
theorem isPv_sub {P Q : List (Int × Int)} (h : ∀ p ∈ P, p ∈ Q) {x : Int} (hx : isPv P x = true) : isPv Q x = true := by
 obtain⟨p,hp,e⟩:=isPv_iff.1 hx
 exact isPv_iff.2 ⟨p,h p hp,e⟩
theorem szQ_mono {V : List Int} {P Q : List (Int × Int)} (h : ∀ p ∈ P, p ∈ Q) (x : Int) : szQ V Q x ≤ szQ V P x :=
 List.countP_mono_left fun y _ hy=>sameP_iff.2 fun p hp=>sameP_iff.1 hy p (h p hp)
theorem szQ_le (V:List Int) (P:List (Int × Int)) (x:Int):szQ V P x≤V.length:=List.countP_le_length
theorem phi_mono {V : List Int} {s : Sett} {P Q : List (Int × Int)} (h : ∀ p ∈ P, p ∈ Q) (hV : V.length ≤ 64) (x : Int) : phi V s Q x ≤ phi V s P x := by
 unfold phi
 by_cases h1:unP P x=true
 ·have h2 : unP Q x = true := by
   simp only [unP,Bool.and_eq_true] at h1 ⊢
   exact⟨isPv_sub h h1.1,isPv_sub h h1.2⟩
  rw [if_pos h1,if_pos h2];exact Nat.le_refl _
 rw [if_neg h1]
 split
 ·exact Nat.zero_le _
 split
 ·have := szQ_le V P x
  have:=szQ_le V Q x
  exact levT_mono _ _ _ _ _ (szQ_mono h x) (by omega) (by omega)
 exact Nat.le_refl _
theorem Phi_mono {V:List Int} {s:Sett} {P Q:List (Int × Int)} (h:∀ p ∈ P,p ∈ Q) (hV:V.length≤64):Phi V s Q≤Phi V s P:=sumF_mono fun x _=>phi_mono h hV x
/-- Where the ends of a piece come from. -/
theorem pc_ends {c : Crk} {v : Int} (hp : isPv c.piv v = false) : (pcFrom c.piv v = 0 ∨ ∃ p ∈ c.piv, p.1 < v ∧ p.2 = pcFrom c.piv v) ∧ (pcTo c.piv c.vals.length v = c.vals.length ∨ ∃ p ∈ c.piv, v < p.1 ∧ p.2 = pcTo c.piv c.vals.length v) := by
 have hle:=geIx_le c.piv v
 constructor
 ·rw [pcFrom_a hp]
  by_cases h0:geIx c.piv v=0
  ·left;rw [h0];rfl
  right
  obtain⟨p,hq⟩:=at_lt (l:=c.piv) (k:=geIx c.piv v - 1) (by omega)
  have e : aOf c.piv (geIx c.piv v) = p.2 := by
   have:=aOf_step hq
   rwa [show geIx c.piv v - 1+1=geIx c.piv v by omega] at this
  exact⟨p,List.mem_of_getElem? hq,geIx_below (by omega) hq,e.symm⟩
 by_cases h0 : geIx c.piv v < c.piv.length
 ·right
  obtain⟨p,hq⟩:=at_lt h0
  have h1:=geIx_here hq
  have h2:=isPv_no hp p (List.mem_of_getElem? hq)
  exact⟨p,List.mem_of_getElem? hq,by omega,by rw [pcTo,zOf_at hq]⟩
 left
 rw [pcTo,show geIx c.piv v=c.piv.length by omega,zOf_end]
theorem piece_same {c : Crk} {v : Int} (hc : isCrk c = true) (hp : isPv c.piv v = false) {i : Nat} {y : Int} (hy : c.vals[i]? = some y) : sameP c.piv v y = true ↔ (pcFrom c.piv v ≤ i ∧ (i : Int) < pcTo c.piv c.vals.length v) := by
 have ho:=(crk_iff c).1 hc
 have hs:=pv_side hc hp
 have hil:=lt_of_at hy
 have hat : ∀ p ∈ c.piv, (y < p.1 ↔ (i : Int) < p.2) := fun p hm => by
  have:=(ho.pv p hm).2.2.2.2 i hil
  rwa [getD_of hy] at this
 rw [sameP_iff]
 constructor
 ·intro h
  obtain⟨e1,e2⟩:=pc_ends hp
  constructor
  ·rcases e1 with e | ⟨p, hm, h1, e⟩
   ·omega
   have h2 := h p hm
   have h3:=hat p hm
   omega
  rcases e2 with e | ⟨p, hm, h1, e⟩
  ·omega
  have h2 := h p hm
  have h3:=hat p hm
  omega
 rintro ⟨h1, h2⟩ p hm
 have h3:=hat p hm
 rcases hs p hm with ⟨k1,k2⟩|⟨k1,k2⟩
 ·constructor<;>intro _<;>omega
 constructor<;>intro _<;>omega
theorem filter_piece {c : Crk} {v : Int} (hc : isCrk c = true) (hp : isPv c.piv v = false) : c.vals.filter (sameP c.piv v) = cutV c.vals (pcFrom c.piv v) (pcTo c.piv c.vals.length v) := by
 have hb:=pc_bounds hc v
 rw [cutV]
 exact filter_mid _ _ _ _ (by omega) (by omega) fun i x hx => by
  rw [piece_same hc hp hx]
  omega
theorem sz_piece {c : Crk} {v : Int} (hc : isCrk c = true) (hp : isPv c.piv v = false) : (szQ c.vals c.piv v : Int) = pcTo c.piv c.vals.length v - pcFrom c.piv v := by
 have hb:=pc_bounds hc v
 rw [szQ,List.countP_eq_length_filter,filter_piece hc hp,cutV_len hb.1 hb.2.1 hb.2.2]
theorem unP_out {P : List (Int × Int)} {v x : Int} (h : sameP P v x = true) (hp : isPv P v = false) : unP P x = false := by
 have h1:=sameP_iff.1 h
 cases hu:unP P x
 ·rfl
 exfalso
 simp only [unP,Bool.and_eq_true] at hu
 obtain⟨p,hp1,e1⟩:=isPv_iff.1 hu.1
 obtain⟨q,hq1,e2⟩:=isPv_iff.1 hu.2
 have k1:=h1 p hp1
 have k2:=h1 q hq1
 have k3:=isPv_no hp p hp1
 omega
/-- What a division costs. -/
theorem chg_cost {q : Int} {c : Crk} {v : Int} (hc : isCrk c = true) (hv : bnd v = true) : isPv c.piv v = true ∧ totW (chgs q c v) = 0 ∨ isPv c.piv v = false ∧ 2 * totW (chgs q c v) ≤ szQ c.vals c.piv v := by
 cases hp:isPv c.piv v
 ·refine .inr ⟨rfl, ?_⟩
  obtain⟨at_,k1,k2,k3,k4,k5,_⟩:=crack_ok hc hv hp
  have hcr:(crackC c v).2=(partC c v).1:=by rw [crackC,if_neg (by simp [hp])]
  rw [sz_piece hc hp,chgs,if_neg (by simp [hp])]
  simp only [totW,hcr]
  omega
 exact .inl ⟨rfl,by rw [chgs,if_pos hp];rfl⟩
theorem crack_vperm {c : Crk} {v : Int} (hc : isCrk c = true) (hv : bnd v = true) : (crackC c v).1.vals.Perm c.vals :=
 vals_perm ((crk_iff c).1 hc) ((crk_iff _).1 (crackC_ok hc hv).1) (crack_perm hc hv)
theorem cnt_and {V : List Int} {a b : Int → Bool} : V.countP (fun y => b y && a y) = (V.filter a).countP b := by
 rw [List.countP_filter]
/-- Behind a step the halves are no more than half as long. -/
theorem half_sz {c : Crk} {s : Sett} {v x : Int} (hc : isCrk c = true) (hp : isPv c.piv v = false) (h2 : s.pol ≠ 2) (hlt : pcFrom c.piv v < pcTo c.piv c.vals.length v) {Q : List (Int × Int)} (hs : ∀ p ∈ c.piv, p ∈ Q) (hm1 : isPv Q (chW c s v) = true) (hm2 : isPv Q (chW c s v + 1) = true) (hx : sameP c.piv v x = true) (hne : x ≠ chW c s v) : szQ c.vals Q x ≤ szQ c.vals c.piv v / 2 := by
 have hb:=pc_bounds hc v
 have hW:=filter_piece hc hp
 have hl:=cutV_len (xs:=c.vals) hb.1 hb.2.1 hb.2.2
 have hsz:=sz_piece hc hp
 have em:chW c s v=medI (cutV c.vals (pcFrom c.piv v) (pcTo c.piv c.vals.length v)):=by rw [chW,chP,if_neg h2]
 generalize hWW:cutV c.vals (pcFrom c.piv v) (pcTo c.piv c.vals.length v)=W at *
 have hms:=med_sides (l:=W) (by omega)
 rw [← em] at hms
 obtain⟨p,hpm,ep⟩:=isPv_iff.1 hm1
 obtain⟨q,hqm,eq⟩:=isPv_iff.1 hm2
 have hin : ∀ y, sameP Q x y = true → sameP c.piv v y = true ∧ (p.1 ≤ x ↔ p.1 ≤ y) ∧ (q.1 ≤ x ↔ q.1 ≤ y) := fun y hy => by
  have hy:=sameP_iff.1 hy
  exact⟨sameP_iff.2 fun r hr=>(sameP_iff.1 hx r hr).trans (hy r (hs r hr)),hy p hpm,hy q hqm⟩
 have hlW:szQ c.vals c.piv v=W.length:=by omega
 rw [hlW]
 rcases Int.lt_or_gt_of_ne hne with h|h
 ·have h1 : szQ c.vals Q x ≤ c.vals.countP (fun y => decide (y < chW c s v) && sameP c.piv v y) := List.countP_mono_left fun y _ hy => by
   obtain⟨k1,k2,k3⟩:=hin y hy
   rw [k1,Bool.and_true,decide_eq_true_eq]
   omega
  rw [cnt_and,hW] at h1
  omega
 have h1 : szQ c.vals Q x ≤ c.vals.countP (fun y => (!decide (y < chW c s v + 1)) && sameP c.piv v y) := List.countP_mono_left fun y _ hy => by
  obtain⟨k1,k2,k3⟩:=hin y hy
  rw [k1,Bool.and_true,Bool.not_eq_true',decide_eq_false_iff_not]
  omega
 rw [cnt_and,hW] at h1
 have h3:=List.length_eq_countP_add_countP (fun y=>decide (y<chW c s v+1)) (l:=W)
 have h4 : W.countP (fun y => !decide (y < chW c s v + 1)) = W.countP (fun a => decide ¬(decide (a < chW c s v + 1)) = true) := by
  congr 1;funext y;generalize decide (y<chW c s v+1)=b;cases b<;>rfl
 omega
theorem step_phi {q : Int} {c : Crk} {s : Sett} {v : Int} (hc : isCrk c = true) (hs : isSet s = true) (hst : stopW c s v = false) :
  totW (chgs q c (chW c s v))+totW (chgs q (crackC c (chW c s v)).1 (chW c s v+1))+(Phi c.vals s (stepW c s v).piv:Int)≤Phi c.vals s c.piv:=by
 obtain⟨hb,b1,b2,k1,k2,_⟩:=stepW_ok hc hs hst
 have hV:=(crk_lens hc).1
 have hsp:=set_parts hs
 simp only [stopW,Bool.or_eq_false_iff,decide_eq_false_iff_not] at hst
 obtain⟨⟨s1,s2⟩,s3⟩:=hst
 obtain⟨i,i1,i2,i3,i4⟩:=chP_at (s:=s) hb.1 hb.2.1 hb.2.2
 have i4':c.vals.getD i 0=chW c s v:=i4
 have him:c.vals[i]? = some (chW c s v):=by rw [← i4',getD_at i3,List.getElem?_eq_getElem i3]
 have hm:sameP c.piv v (chW c s v)=true:=(piece_same hc s2 him).2 ⟨i1,i2⟩
 have hmV:chW c s v ∈ c.vals:=List.mem_of_getElem? him
 have hL:=sz_piece hc s2
 have hsub1:∀ p ∈ c.piv,p ∈ (crackC c (chW c s v)).1.piv:=fun p hp=>crackC_sub hp
 have hsub:∀ p ∈ c.piv,p ∈ (stepW c s v).piv:=fun p hp=>crackC_sub (hsub1 p hp)
 have hm1:isPv (stepW c s v).piv (chW c s v)=true:=crackC_keep crackC_pv
 have hm2:isPv (stepW c s v).piv (chW c s v+1)=true:=crackC_pv
 have c1 : 2 * totW (chgs q c (chW c s v)) ≤ szQ c.vals c.piv v := by
  rcases chg_cost (q:=q) hc b1 with ⟨_,e⟩|⟨_,e⟩
  ·rw [e];omega
  rwa [szQ,← sameP_eq hm] at e
 have c2 : 2 * totW (chgs q (crackC c (chW c s v)).1 (chW c s v + 1)) ≤ szQ c.vals c.piv v := by
  rcases chg_cost (q:=q) k1 b2 with ⟨_,e⟩|⟨hn,e⟩
  ·rw [e];omega
  have e1 : szQ (crackC c (chW c s v)).1.vals (crackC c (chW c s v)).1.piv (chW c s v + 1) = szQ c.vals (crackC c (chW c s v)).1.piv (chW c s v + 1) := (crack_vperm hc b1).countP_eq _
  have e2:=szQ_mono (V:=c.vals) hsub1 (chW c s v+1)
  have e3 : sameP c.piv v (chW c s v + 1) = true := sameP_iff.2 fun p hp => by
   have h1:=sameP_iff.1 hm p hp
   have h2:=isPv_no hn p (hsub1 p hp)
   omega
  have e4:szQ c.vals c.piv (chW c s v+1)=szQ c.vals c.piv v:=by rw [szQ,← sameP_eq e3];rfl
  omega
 have hub:unP (stepW c s v).piv (chW c s v)=true:=by simp only [unP,hm1,hm2,Bool.and_self]
 have hsl:=szQ_le c.vals c.piv v
 by_cases hpol:s.pol=1
 ·have key : Phi c.vals s (stepW c s v).piv + c.vals.countP (sameP c.piv v) ≤ Phi c.vals s c.piv := by
   refine sumF_cnt fun x _=>⟨phi_mono hsub hV x,fun hx=>?_⟩
   have hu:=unP_out hx s2
   have hz:szQ c.vals c.piv x=szQ c.vals c.piv v:=by rw [szQ,← sameP_eq hx];rfl
   obtain⟨g,hg,he⟩:=levT_step (t:=s.thr.toNat) (f:=64) (n:=szQ c.vals c.piv v) (by omega) (by omega)
   have e0 : phi c.vals s c.piv x = levT s.thr.toNat g (szQ c.vals c.piv v / 2) + 1 := by
    rw [phi,if_neg (by simp [hu]),if_pos hpol,hz,he]
   rw [e0]
   by_cases hxm:x=chW c s v
   ·subst hxm
    rw [phi,if_pos hub];omega
   have hh := half_sz hc s2 (by omega) hb.2.1 hsub hm1 hm2 hx hxm
   rw [phi]
   split
   ·omega
   try rw [if_pos hpol]
   have:=levT_mono s.thr.toNat 64 g _ _ hh (by omega) (by omega)
   omega
  have e5:c.vals.countP (sameP c.piv v)=szQ c.vals c.piv v:=rfl
  omega
 have hpol2 : s.pol = 2 := by omega
 have key : Phi c.vals s (stepW c s v).piv + c.vals.length ≤ Phi c.vals s c.piv := by
  refine sumF_one (fun x _=>phi_mono hsub hV x) hmV ?_
  rw [phi,if_pos hub,phi,if_neg (by simp [unP_out hm s2]),if_neg hpol]
  omega
 omega
theorem go_phi {q v : Int} {V : List Int} : ∀ (f : Nat) (c : Crk) (s : Sett) (l : List Qn), isCrk c = true → isSet s = true → V.Perm c.vals → totW (goW q v f c s l).2.2 + (Phi V s (goW q v f c s l).1.piv : Int) ≤ totW l + Phi V s c.piv
 | 0,c,s,l,_,_,_=>Int.le_refl _
 | f + 1, c, s, l, hc, hs, hV => by
  rw [goW]
  split
  ·exact Int.le_refl _
  rename_i h
  have h:=by simpa using h
  obtain⟨_,b1,b2,k1,k2,_⟩:=stepW_ok hc hs h
  have h1:=step_phi (q:=q) hc hs h
  have hVs:V.Perm (stepW c s v).vals:=hV.trans (((crack_vperm k1 b2).trans (crack_vperm hc b1)).symm)
  have h2:=go_phi (q:=q) (v:=v) (V:=V) f (stepW c s v) (setN s) (l++chgs q c (chW c s v)++chgs q (crackC c (chW c s v)).1 (chW c s v+1)) k2 (setN_ok hs) hVs
  have e:(setN s).pol=s.pol∧(setN s).thr=s.thr:=by unfold setN;split<;>exact⟨rfl,rfl⟩
  rw [Phi_set e.1 e.2,Phi_set e.1 e.2,totW_app,totW_app] at h2
  rw [← Phi_perm hV,← Phi_perm hV] at h1
  omega
theorem go_stop {q v : Int} : ∀ (f : Nat) (c : Crk) (s : Sett) (l : List Qn), isCrk c = true → isSet s = true → 2001 < f + c.piv.length → stopW (goW q v f c s l).1 (goW q v f c s l).2.1 v = true
 | 0, c, s, l, hc, _, h => by
  have:=(crk_lens hc).2.2
  omega
 | f + 1, c, s, l, hc, hs, h => by
  rw [goW]
  split
  ·assumption
  rename_i h'
  obtain⟨_,b1,b2,k1,k2,k3⟩:=stepW_ok hc hs (by simpa using h')
  exact go_stop f _ _ _ k2 (setN_ok hs) (by omega)
theorem with_phi {q v : Int} {V : List Int} {c : Crk} {s : Sett} (hv : bnd v = true) (hc : isCrk c = true) (hs : isSet s = true) (hp : s.pol ≠ 0) (hV : V.Perm c.vals) : 2 * totW (withW q c s v []).2.2 + 2 * (Phi V s (withW q c s v []).1.piv : Int) ≤ 2 * Phi V s c.piv + s.thr := by
 have h1:=go_phi (q:=q) (v:=v) (V:=V) 4000 c s [] hc hs hV
 have h2:=go_stop (q:=q) (v:=v) 4000 c s [] hc hs (by omega)
 obtain⟨h3,h4⟩:=withW_ok (q:=q) hv 4000 c s [] hc hs
 obtain⟨h5,h6⟩:=goW_set (q:=q) (v:=v) 4000 c s []
 have hl:V.length≤64:=by rw [hV.length_eq];exact (crk_lens hc).1
 unfold withW
 generalize goW q v 4000 c s []=G at *
 obtain⟨g,t,l⟩:=G
 dsimp only at *
 have hsp:=set_parts hs
 have h7:=Phi_mono (V:=V) (s:=s) (P:=g.piv) (Q:=(crackC g v).1.piv) (fun p hp=>crackC_sub hp) hl
 have h8 : 2 * totW (chgs q g v) ≤ s.thr := by
  rcases chg_cost (q:=q) h3 hv with ⟨_,e⟩|⟨hn,e⟩
  ·rw [e];omega
  rw [sz_piece h3 hn] at e
  simp only [stopW,h5,hn,Bool.or_false,Bool.or_eq_true,decide_eq_true_eq] at h2
  omega
 rw [totW_app]
 simp only [totW] at h1
 omega
theorem with_plain {q v : Int} {c : Crk} {s : Sett} (hv : bnd v = true) (hc : isCrk c = true) (hp : s.pol = 0) : 2 * totW (withW q c s v []).2.2 ≤ c.vals.length := by
 have e : goW q v 4000 c s [] = (c, s, []) := by
  show goW q v (3999+1) c s []=(c,s,[])
  rw [goW,if_pos (by simp [stopW,hp])]
 rw [withW,e]
 have:=szQ_le c.vals c.piv v
 simp only [List.nil_append]
 rcases chg_cost (q:=q) hc hv with ⟨_,e⟩|⟨hn,e⟩
 ·rw [e];omega
 omega
theorem with_set {q v:Int} {c:Crk} {s:Sett} {l:List Qn}:(withW q c s v l).2.1.pol=s.pol∧(withW q c s v l).2.1.thr=s.thr:=goW_set 4000 c s l
theorem with_zip {q v : Int} {c : Crk} {s : Sett} {l : List Qn} (hv : bnd v = true) (hc : isCrk c = true) (hs : isSet s = true) : (zpC (withW q c s v l).1).Perm (zpC c) :=
 (crack_perm (withW_ok (q:=q) hv 4000 c s l hc hs).1 hv).trans (goW_perm 4000 c s l hc hs)
theorem with_keep {q v u:Int} {c:Crk} {s:Sett} {l:List Qn} (h:isPv c.piv u=true):isPv (withW q c s v l).1.piv u=true:=crackC_keep (goW_keep 4000 c s l h)
theorem with_pv {q v:Int} {c:Crk} {s:Sett} {l:List Qn}:isPv (withW q c s v l).1.piv v=true:=crackC_pv
/-- Behind the first k queries. -/
structure BdOk (xs : List Int) (s : Sett) (rs : List (Int × Int)) (c : Crk) (t : Sett) (ls : List (List Int)) (cs : List Int) (k : Nat) : Prop where
 zp:(zpC c).Perm (zpC (newCrk xs))
 pol:t.pol=s.pol
 thr:t.thr=s.thr
 pl:s.pol=0→sumI cs≤(xs.length:Int)*k
 ph:s.pol ≠ 0→sumI cs+(Phi (newCrk xs).vals s c.piv:Int)≤Phi (newCrk xs).vals s []+s.thr*k
 an:∀ i,i<k→ls[i]? = some (riL (newCrk xs) (rs.getD i (0,0)))
theorem rq_bd {xs : List Int} {s : Sett} {rs : List (Int × Int)} (hx : areVals xs = true) (hs : isSet s = true) (hr : ∀ r ∈ rs, isRng r = true) : ∀ (k : Nat), k ≤ rs.length → ∀ {c t ls cs}, rqN xs s rs k = (c, t, ls, cs) → BdOk xs s rs c t ls cs k
 | 0, _, c, t, ls, cs, h => by
  have h1:(newCrk xs,s,([]:List (List Int)),([]:List Int))=(c,t,ls,cs):=h
  cases h1
  refine⟨List.Perm.refl _,rfl,rfl,fun _=>by simp [sumI],fun _=>?_,fun i hi=>by omega⟩
  rw [newCrk,if_pos hx]
  simp [sumI]
 | k + 1, hk, c, t, ls, cs, h => by
  obtain⟨r,hrk⟩:=at_lt (l:=rs) (k:=k) (by omega)
  have hrd:rs.getD k (0,0)=r:=by rw [List.getD_eq_getElem?_getD,hrk];rfl
  generalize hN:rqN xs s rs k=P at *
  obtain⟨c1,t1,ls1,cs1⟩:=P
  have ih:=rq_bd hx hs hr k (by omega) hN
  have hok:=rq_ok hx hs hr k (by omega) hN
  have h2:=rq_next hrk hN
  rw [h] at h2
  have hrr:=hr r (List.mem_of_getElem? hrk)
  obtain⟨b1,b2⟩:=rng_bnd hrr
  have hw:=sw_ok hok.oc hok.os hrr
  have hle : r.1 ≤ r.2 := by
   have:=hrr
   simp only [isRng,Bool.and_eq_true,decide_eq_true_eq] at this
   omega
  have z1:(zpC (sw1 c1 t1 r).1).Perm (zpC c1):=with_zip b1 hok.oc hok.os
  have z2:(zpC (sw2 c1 t1 r).1).Perm (zpC (sw1 c1 t1 r).1):=with_zip b2 hw.c1 hw.s1
  have e1:(sw1 c1 t1 r).2.1.pol=t1.pol∧(sw1 c1 t1 r).2.1.thr=t1.thr:=with_set
  have e2:(sw2 c1 t1 r).2.1.pol=(sw1 c1 t1 r).2.1.pol∧(sw2 c1 t1 r).2.1.thr=(sw1 c1 t1 r).2.1.thr:=with_set
  have hn:=(crk_iff _).1 (newCrk_ok hx)
  have v1:(newCrk xs).vals.Perm c1.vals:=vals_perm ((crk_iff _).1 hok.oc) hn ih.zp.symm
  have v2:(newCrk xs).vals.Perm (sw1 c1 t1 r).1.vals:=vals_perm ((crk_iff _).1 hw.c1) hn (z1.trans ih.zp).symm
  have hxl:(newCrk xs).vals.length=xs.length:=by rw [newCrk,if_pos hx]
  have l1:c1.vals.length=xs.length:=by rw [← v1.length_eq,hxl]
  have l2:(sw1 c1 t1 r).1.vals.length=xs.length:=by rw [← v2.length_eq,hxl]
  have hll:=hok.ll
  cases h2
  refine⟨z2.trans (z1.trans ih.zp),by rw [e2.1,e1.1,ih.pol],by rw [e2.2,e1.2,ih.thr],fun h0=>?_,fun h0=>?_,fun i hi=>?_⟩
  ·have w1 := with_plain (q := 0) (s := t1) b1 hok.oc (by rw [ih.pol, h0])
   have w2:=with_plain (q:=0) (s:=(sw1 c1 t1 r).2.1) b2 hw.c1 (by rw [e1.1,ih.pol,h0])
   have w3:=ih.pl h0
   have w1':2*totW (sw1 c1 t1 r).2.2≤c1.vals.length:=w1
   have w2':2*totW (sw2 c1 t1 r).2.2≤(sw1 c1 t1 r).1.vals.length:=w2
   have:(xs.length:Int)*((k+1:Nat):Int)=xs.length*k+xs.length:=by rw [Int.natCast_add,Int.mul_add];simp
   rw [sumI_app,this]
   simp only [sumI]
   omega
  ·have w1 := with_phi (q := 0) (V := (newCrk xs).vals) b1 hok.oc hok.os (by rw [ih.pol]; exact h0) v1
   have w2:=with_phi (q:=0) (V:=(newCrk xs).vals) b2 hw.c1 hw.s1 (by rw [e1.1,ih.pol];exact h0) v2
   have w3:=ih.ph h0
   rw [Phi_set ih.pol ih.thr,Phi_set ih.pol ih.thr,ih.thr] at w1
   rw [Phi_set (e1.1.trans ih.pol) (e1.2.trans ih.thr),Phi_set (e1.1.trans ih.pol) (e1.2.trans ih.thr),e1.2,ih.thr] at w2
   have w1':2*totW (sw1 c1 t1 r).2.2+2*(Phi (newCrk xs).vals s (sw1 c1 t1 r).1.piv:Int)≤2*Phi (newCrk xs).vals s c1.piv+s.thr:=w1
   have w2':2*totW (sw2 c1 t1 r).2.2+2*(Phi (newCrk xs).vals s (sw2 c1 t1 r).1.piv:Int)≤2*Phi (newCrk xs).vals s (sw1 c1 t1 r).1.piv+s.thr:=w2
   have:s.thr*((k+1:Nat):Int)=s.thr*k+s.thr:=by rw [Int.natCast_add,Int.mul_add];simp
   rw [sumI_app,this]
   simp only [sumI]
   omega
  rcases Nat.lt_or_ge i k with h' | h'
  ·rw [List.getElem?_append_left (by omega)];exact ih.an i h'
  obtain rfl : i = k := by omega
  rw [List.getElem?_append_right (by omega),hll,Nat.sub_self,hrd]
  have p3:isPv (sw2 c1 t1 r).1.piv r.1=true:=with_keep with_pv
  have p4:isPv (sw2 c1 t1 r).1.piv r.2=true:=with_pv
  have:=riL_mid hw.c2 hrr p3 p4 (fpAt_mono hw.c2 p3 p4 hle)
  rw [riL_of (crk_lens hw.c2).2.1 hn.rl (z2.trans (z1.trans ih.zp))] at this
  rw [this];rfl
/-- The certified bound. -/
theorem rq_sw {xs : List Int} {s : Sett} {rs : List (Int × Int)} (hq : areQ xs s rs = true) : sumI (rqK xs s rs) ≤ swB xs.length s rs.length := by
 obtain⟨h1,h2,h3,h4⟩:=areQ_parts hq
 rw [rqK,if_pos hq]
 generalize hN:rqN xs s rs rs.length=P
 obtain⟨c,t,ls,cs⟩:=P
 have hb:=rq_bd h1 h2 h4 rs.length (Nat.le_refl _) hN
 have hxl:(newCrk xs).vals.length=xs.length:=by rw [newCrk,if_pos h1]
 have hx64:=(areVals_parts h1).1
 have hsp:=set_parts h2
 dsimp only
 unfold swB
 by_cases p0:s.pol=0
 ·rw [if_pos p0];exact hb.pl p0
 have hp := hb.ph p0
 have hm0:0≤(Phi (newCrk xs).vals s c.piv:Int):=Int.natCast_nonneg _
 by_cases p1:s.pol=1
 ·rw [if_neg p0, if_pos p1]
  have hB : Phi (newCrk xs).vals s [] ≤ (newCrk xs).vals.length * levT s.thr.toNat 64 (newCrk xs).vals.length := sumF_bd fun x _ => by
   rw [phi]
   split
   ·exact Nat.zero_le _
   try rw [if_pos p1]
   have:=szQ_le (newCrk xs).vals [] x
   exact levT_mono _ _ _ _ _ this (by omega) (by omega)
  rw [hxl] at hB
  have hB':(Phi (newCrk xs).vals s []:Int)≤(xs.length:Int)*(levT s.thr.toNat 64 xs.length:Nat):=by exact_mod_cast hB
  omega
 rw [if_neg p0, if_neg p1]
 have hB : Phi (newCrk xs).vals s [] ≤ (newCrk xs).vals.length * (newCrk xs).vals.length := sumF_bd fun x _ => by
  rw [phi]
  split
  ·exact Nat.zero_le _
  first|exact Nat.le_refl _|(rw [if_neg p1];exact Nat.le_refl _)
 rw [hxl] at hB
 have hB':(Phi (newCrk xs).vals s []:Int)≤(xs.length:Int)*xs.length:=by exact_mod_cast hB
 omega
/-! The ledger: played again it gives the column. -/
theorem repl_app : ∀ (a b : List Chg) (c : Crk), repl c (a ++ b) = (repl c a).bind fun d => repl d b
 | [],b,c=>rfl
 | g :: a, b, c => by
  rw [List.cons_append,repl,repl]
  split
  ·exact repl_app a b _
  rfl
theorem repl_chgs {q : Int} {c : Crk} {v : Int} (hv : bnd v = true) : repl c (chgs q c v) = some (crackC c v).1 := by
 rw [chgs]
 cases hp:isPv c.piv v
 ·rw [if_neg (by simp),repl,if_pos (stepK_mk hv hp rfl rfl rfl)];rfl
 rw [if_pos rfl,crackC,if_pos hp];rfl
theorem repl_go {q v : Int} {c0 : Crk} : ∀ (f : Nat) (c : Crk) (s : Sett) (l : List Qn), isCrk c = true → isSet s = true → repl c0 l = some c → repl c0 (goW q v f c s l).2.2 = some (goW q v f c s l).1
 | 0,c,s,l,_,_,h=>h
 | f + 1, c, s, l, hc, hs, h => by
  rw [goW]
  split
  ·exact h
  rename_i h'
  obtain⟨_,b1,b2,k1,k2,k3⟩:=stepW_ok hc hs (by simpa using h')
  refine repl_go f _ _ _ k2 (setN_ok hs) ?_
  rw [repl_app,repl_app,h]
  show (repl c (chgs q c (chW c s v))).bind (fun d=>repl d (chgs q (crackC c (chW c s v)).1 (chW c s v+1)))=_
  rw [repl_chgs b1]
  show repl (crackC c (chW c s v)).1 _=_
  rw [repl_chgs b2];rfl
theorem repl_with {q v : Int} {c0 c : Crk} {s : Sett} {l : List Qn} (hv : bnd v = true) (hc : isCrk c = true) (hs : isSet s = true) (h : repl c0 l = some c) : repl c0 (withW q c s v l).2.2 = some (withW q c s v l).1 := by
 rw [withW]
 dsimp only
 rw [repl_app,repl_go 4000 c s l hc hs h]
 exact repl_chgs hv
theorem go_ind {q p v : Int} : ∀ (f : Nat) (c : Crk) (s : Sett) (l m : List Qn), (goW q v f c s l).1 = (goW p v f c s m).1 ∧ (goW q v f c s l).2.1 = (goW p v f c s m).2.1 ∧ totW (goW q v f c s l).2.2 + totW m = totW (goW p v f c s m).2.2 + totW l
 | 0,c,s,l,m=>⟨rfl,rfl,Int.add_comm _ _⟩
 | f + 1, c, s, l, m => by
  rw [goW,goW]
  split
  ·exact⟨rfl,rfl,Int.add_comm _ _⟩
  obtain ⟨h1, h2, h3⟩ := go_ind (q := q) (p := p) (v := v) f (stepW c s v) (setN s) (l ++ chgs q c (chW c s v) ++ chgs q (crackC c (chW c s v)).1 (chW c s v + 1)) (m ++ chgs p c (chW c s v) ++ chgs p (crackC c (chW c s v)).1 (chW c s v + 1))
  have hq : ∀ (c : Crk) (u : Int), totW (chgs q c u) = totW (chgs p c u) := fun c u => by
   rw [chgs,chgs];split<;>rfl
  refine⟨h1,h2,?_⟩
  rw [totW_app,totW_app,totW_app,totW_app,hq,hq] at h3
  omega
theorem with_ind {q p v : Int} {c : Crk} {s : Sett} {l m : List Qn} : (withW q c s v l).1 = (withW p c s v m).1 ∧ (withW q c s v l).2.1 = (withW p c s v m).2.1 ∧ totW (withW q c s v l).2.2 + totW m = totW (withW p c s v m).2.2 + totW l := by
 obtain⟨h1,h2,h3⟩:=go_ind (q:=q) (p:=p) (v:=v) 4000 c s l m
 have hq : ∀ (c : Crk) (u : Int), totW (chgs q c u) = totW (chgs p c u) := fun c u => by
  rw [chgs,chgs];split<;>rfl
 unfold withW
 rw [h1,h2]
 refine⟨rfl,rfl,?_⟩
 dsimp only
 rw [totW_app,totW_app,hq]
 omega
/-- The sorted rows of a fresh column are those of a scan. -/
def scN (xs : List Int) (r : Int × Int) : Nat → List Int
 | 0=>[]
 | k+1=>if inR r (xs.getD k 0)=true then scN xs r k++[(k:Int)] else scN xs r k
theorem scN_len (xs : List Int) (r : Int × Int) : ∀ k, (scN xs r k).length ≤ k
 | 0=>Nat.le_refl _
 | k + 1 => by
  have:=scN_len xs r k
  rw [scN]
  split
  ·rw [List.length_append,List.length_singleton];omega
  omega
theorem scN_up (xs : List Int) (r : Int × Int) : ∀ k, List.Pairwise (fun a b : Int => a ≤ b) (scN xs r k) ∧ ∀ x ∈ scN xs r k, x < k
 | 0=>by simp [scN]
 | k + 1 => by
  obtain⟨h1,h2⟩:=scN_up xs r k
  rw [scN]
  split
  ·refine ⟨List.pairwise_append.2 ⟨h1, by simp, fun a ha b hb => ?_⟩, fun x hx => ?_⟩
   ·obtain rfl : b = (k : Int) := by simpa using hb
    have:=h2 a ha
    omega
   rcases List.mem_append.1 hx with hx | hx
   ·have := h2 x hx
    omega
   obtain rfl : x = (k : Int) := by simpa using hx
   omega
  exact⟨h1,fun x hx=>by have:=h2 x hx;omega⟩
theorem riL_new {xs : List Int} {r : Int × Int} (hx : areVals xs = true) : riL (newCrk xs) r = scN xs r xs.length := by
 have e:newCrk xs=⟨xs,upto xs.length,[]⟩:=by rw [newCrk,if_pos hx]
 have h : ∀ k, k ≤ xs.length → riN (newCrk xs) r k = scN xs r k := fun k hk => by
  induction k with
  | zero=>rfl
  | succ k ih =>
   have hu:(upto xs.length).getD k 0=(k:Int):=by rw [List.getD_eq_getElem?_getD,upto_get (by omega)];rfl
   rw [riN,scN,ih (by omega),e]
   dsimp only
   rw [hu]
 rw [riL,e,← e,show (newCrk xs).vals.length=xs.length by rw [e],h _ (Nat.le_refl _)]
 exact (sortI_eq (List.Perm.refl _) (scN_up xs r xs.length).1).symm

end Go.Proofs.YtjbbjicochipeaaGreat.E
