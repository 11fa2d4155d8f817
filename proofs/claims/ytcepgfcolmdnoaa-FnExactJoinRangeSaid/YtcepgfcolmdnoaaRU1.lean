/- The comparison of elements, walked over memory: what it returns, and that it only draws and lays blocks anew. -/
import Derived.Test.YtcepgfcolmdnoaaRT0
import Derived.Test.YtcepgfcolmdnoaaETab
import Derived.WalkKit
import Derived.Handy
import Derived.StillTailTactics
set_option linter.unusedVariables false
set_option linter.unusedSimpArgs false
namespace Go.Proofs.Ytcepgfcolmdnoaa.RU
open Go Go.RowKit Go.Lib Go.Proofs Go.Sort
set_option maxHeartbeats 4000000 in
set_option maxRecDepth 100000 in
theorem or_calls (b : Nat) (u v : Int) (w : World) (h0 : w.cell? ⟨b, 0, none⟩ = some (.int .i64 u)) (h1 : w.cell? ⟨b, 1, none⟩ = some (.int .i64 v)) :
  Calls Try.prog 189 #[.slice (some ⟨b,0,none⟩) 2 2] w fun e w'=>e = .returned (.int .i64 (if u ≠ 0 then u else v))∧w'=w:=by
 go_enter Try.func189,Try.ntmps189
 go_wp2
 go_rounds 3
 all_goals (go_ret;refine⟨?_,rfl⟩;simp_all;done)

theorem two_cells (w : World) (x y : Int × Int) (e : Nat) : ∃ W, W = (w.alloc (.cells #[.int .i64 x.1, .int .i64 x.2] e)).alloc (.cells #[.int .i64 y.1, .int .i64 y.2] e) ∧ W.cell? ⟨w.heap.size, 0, none⟩ = some (.int .i64 x.1) ∧ W.cell? ⟨w.heap.size, 1, none⟩ = some (.int .i64 x.2) ∧ W.cell? ⟨w.heap.size + 1, 0, none⟩ = some (.int .i64 y.1) ∧ W.cell? ⟨w.heap.size + 1, 1, none⟩ = some (.int .i64 y.2) ∧
  W=grow w #[.cells #[.int .i64 x.1,.int .i64 x.2] e,.cells #[.int .i64 y.1,.int .i64 y.2] e]:=by
 refine⟨_,rfl,?_⟩
 have h0:=E.heap_alloc_self w (.cells #[.int .i64 x.1,.int .i64 x.2] e)
 have h1:=E.heap_alloc_lt (w.alloc (.cells #[.int .i64 x.1,.int .i64 x.2] e)) (.cells #[.int .i64 y.1,.int .i64 y.2] e) w.heap.size (by show w.heap.size<(w.heap.push _).size;rw [Array.size_push];omega)
 have h2:=E.heap_alloc_self (w.alloc (.cells #[.int .i64 x.1,.int .i64 x.2] e)) (.cells #[.int .i64 y.1,.int .i64 y.2] e)
 have hs:(w.alloc (.cells #[.int .i64 x.1,.int .i64 x.2] e)).heap.size=w.heap.size+1:=by show (w.heap.push _).size=_;rw [Array.size_push]
 rw [h0] at h1
 rw [hs] at h2
 refine⟨?_,?_,?_,?_,?_⟩
 ·simp only [World.cell?,h1];rfl
 ·simp only [World.cell?,h1];rfl
 ·simp only [World.cell?,h2];rfl
 ·simp only [World.cell?,h2];rfl
 rw [alloc_eq_grow,alloc_eq_grow,grow_grow];rfl
set_option maxHeartbeats 4000000 in
set_option maxRecDepth 100000 in
theorem compare_calls (x y : Int × Int) (w : World) : Calls Try.prog 188 #[.agg #[.int .i64 x.1, .int .i64 x.2], .agg #[.int .i64 y.1, .int .i64 y.2]] w fun e w' => e = .returned (.int .i64 (if compareInt x.1 y.1 ≠ 0 then compareInt x.1 y.1 else compareInt x.2 y.2)) ∧ ∃ q os', w' = grow (w.drewN q) os' := by
 obtain⟨p,hp⟩:∃ p,p=compareInt x.1 y.1:=⟨_,rfl⟩
 obtain⟨q,hq⟩:∃ q,q=compareInt x.2 y.2:=⟨_,rfl⟩
 have call1:∀ w,Calls Try.prog 190 #[.int .i64 x.1,.int .i64 y.1] w fun e w'=>e = .returned (.int .i64 p)∧w'=w:=fun w=>hp ▸ Try.cmp_Compare_int x.1 y.1 w
 have call2:∀ w,Calls Try.prog 190 #[.int .i64 x.2,.int .i64 y.2] w fun e w'=>e = .returned (.int .i64 q)∧w'=w:=fun w=>hq ▸ Try.cmp_Compare_int x.2 y.2 w
 obtain⟨r,hr⟩:∃ r,r=(if p ≠ 0 then p else q):=⟨_,rfl⟩
 have call3:∀ b w,w.cell? ⟨b,0,none⟩=some (.int .i64 p)→w.cell? ⟨b,1,none⟩=some (.int .i64 q)→Calls Try.prog 189 #[.slice (some ⟨b,0,none⟩) 2 2] w fun e w'=>e = .returned (.int .i64 r)∧w'=w:=fun b w h0 h1=>hr ▸ or_calls b p q w h0 h1
 rw [← hp,← hq,← hr]
 clear hp hq hr
 go_enter Try.func188,Try.ntmps188
 go_wp2
 obtain⟨W,hW,c0,c1,c2,c3,hg⟩:=two_cells w x y 173
 rw [← hW]
 clear hW
 replace hg:=hg.symm
 have hWs:W.heap.size=w.heap.size+2:=by rw [← hg];show (w.heap++_).size=_;rw [Array.size_append];rfl
 go_still_tail 10,(by kernel_rfl)
 still_call (call1 _)
 repeat still_step
 still_call (call2 _)
 refine wpStill_nil ?_
 change wpList _ _ _ _ _ (World.drew W)
 have hV:World.drew W=grow (w.drewN 1) #[.cells #[.int .i64 x.1,.int .i64 x.2] 173,.cells #[.int .i64 y.1,.int .i64 y.2] 173]:=by rw [← hg];rfl
 clear hg hWs
 generalize World.drew W=V at *
 have k0 : ∀ a b : Int, (V.alloc (.cells #[.int .i64 a, .int .i64 b] 3)).cell? ⟨V.heap.size, 0, none⟩ = some (.int .i64 a) := fun a b => by
  have:=E.heap_alloc_self V (.cells #[.int .i64 a,.int .i64 b] 3)
  simp only [World.cell?,this];rfl
 have k1 : ∀ a b : Int, (V.alloc (.cells #[.int .i64 a, .int .i64 b] 3)).cell? ⟨V.heap.size, 1, none⟩ = some (.int .i64 b) := fun a b => by
  have:=E.heap_alloc_self V (.cells #[.int .i64 a,.int .i64 b] 3)
  simp only [World.cell?,this];rfl
 replace hV:=hV.symm
 go_wp2_with (go_at_call 189;refine (call3 _ _ (k0 _ _) (k1 _ _)).mono ?_;rintro e w' ⟨rfl,rfl⟩)
 go_ret
 refine⟨rfl,1,#[.cells #[.int .i64 x.1,.int .i64 x.2] 173,.cells #[.int .i64 y.1,.int .i64 y.2] 173,.cells #[.int .i64 p,.int .i64 q] 3],?_⟩
 rw [alloc_eq_grow,← hV,grow_grow];rfl
end Go.Proofs.Ytcepgfcolmdnoaa.RU
