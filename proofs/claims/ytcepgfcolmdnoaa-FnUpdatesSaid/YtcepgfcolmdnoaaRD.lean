/- slices.Delete of one item, walked over memory: what it leaves. -/
import Derived.Test.YtcepgfcolmdnoaaETab
import Derived.WalkKit
import Derived.Lib.Walk
import Derived.Lib.SliceRun
import Derived.Deep.RegionLaw
set_option linter.unusedVariables false
set_option linter.unusedSimpArgs false
namespace Go.Proofs.Ytcepgfcolmdnoaa.RD
open Go Go.RowKit Go.Lib Go.Proofs

variable {P:Program}

theorem run_clear_one (w : World) (t e ty : TypeId) (z : Value) (cs : List Value) (ht : P.underlying t = some (.slice e)) (hv : ∀ w, (zeroValue e).run P w = .ok z w) (hz : (Builtin.zeroCells z.cells 1).toList = cs) (h1 : ∀ v ∈ cs, v.oneCell' = true) (b o c m : Nat) (hm : m = 1)
  (hc:∀ j,j<cs.length→(w.cell? ⟨b,o+j,none⟩).isSome=true) (hf:∀ j,j<cs.length→w.frozen? ⟨b,o+j,none⟩=false) :
  (Builtin.clear_ #[t] ty #[.slice (some ⟨b,o,none⟩) m c]).run P w = .ok (.tuple #[]) (w.setCells b o cs):=by
 subst hm
 have hst:=run_storeCells_cells (P:=P) b o cs 0 w (by simpa using hc) (by simpa using hf) h1
 simp only [Nat.add_zero] at hst
 simp [Builtin.clear_,run_underlying ht,hv,hz,hst]

theorem isSome_setCells (b : Nat) (vs : List Value) (o : Nat) (w : World) (h : ∀ j, j < vs.length → (w.cell? ⟨b, o + j, none⟩).isSome = true) (k : Nat) (hk : (w.cell? ⟨b, k, none⟩).isSome = true) : ((w.setCells b o vs).cell? ⟨b, k, none⟩).isSome = true := by
 by_cases hin:o≤k∧k<o+vs.length
 ·have := World.cell?_setCells_in b vs o w h (k - o) (by omega)
  rw [show o+(k - o)=k by omega] at this
  rw [this];rfl
 ·rw [World.cell?_setCells_out b vs o w ⟨b, k, none⟩ (fun _ _ => by show k < o ∨ o + vs.length ≤ k; omega)]
  exact hk

set_option maxHeartbeats 4000000 in
set_option maxRecDepth 100000 in
theorem delete_one (b n c i : Nat) (cs : List Value) (w : World) (hi : i < n) (hnc : n ≤ c) (hc63 : c ≤ 9223372036854775807)
  (hcl:cs.length=n*2)
  (hcs:∀ j v,cs[j]? = some v→w.cell? ⟨b,0+j,none⟩=some v) (hfz:∀ j,j<n*2→w.frozen? ⟨b,0+j,none⟩=false) (h1c:∀ v ∈ cs,v.oneCell'=true) :
  Calls Try.prog 112 #[.slice (some ⟨b, 0, none⟩) n c, .int .i64 i, .int .i64 ((i : Int) + 1)] w fun e w' =>
   e = .returned (.slice (some ⟨b,0,none⟩) (n - 1) c)∧w'=(w.drew.setCells b (i*2) (cs.drop ((i+1)*2))).setCells b ((n - 1)*2) [.int .i64 0,.int .i64 0]:=by
 have hT:Try.prog.underlying 56=some (.slice 60):=E.isSlice_of E.sl_56
 obtain ⟨i0, hi0, hz0, hzs⟩ : ∃ i0, Try.prog.info? 60 = some i0 ∧ i0.zero = some (.agg #[.int .i64 0, .int .i64 0]) ∧ i0.size = 2 := by
  have h1:=E.ty_60
  obtain⟨d,j,_,_,k1,k2⟩:=E.tyIs_parts h1
  refine⟨j,k1,?_,k2⟩
  have h3:(Try.prog.info? 60).bind (·.zero)=some (.agg #[.int .i64 0,.int .i64 0]):=by kernel_rfl
  rw [k1] at h3;simpa using h3
 have hzv:∀ w,(zeroValue 60).run Try.prog w = .ok (.agg #[.int .i64 0,.int .i64 0]) w:=fun w=>by simp [zeroValue,typeInfo,hi0,hz0]
 obtain⟨news,hnews⟩:∃ news,news=cs.drop ((i+1)*2):=⟨_,rfl⟩
 have hlen:news.length=(n - (i+1))*2:=by rw [hnews,List.length_drop,hcl];omega
 have hsome : ∀ k, k < n * 2 → (w.drew.cell? ⟨b, k, none⟩).isSome = true := fun k hk => by
  show (w.cell? _).isSome=true
  have:=hcs k _ (List.getElem?_eq_getElem (by omega))
  rw [Nat.zero_add] at this
  rw [this];rfl
 have hfr : ∀ k, k < n * 2 → w.drew.frozen? ⟨b, k, none⟩ = false := fun k hk => by
  have:=hfz k hk
  rw [Nat.zero_add] at this
  exact this
 obtain ⟨A, hA, hsrc⟩ : ∃ A : Addr, (if c = i + 1 then some (⟨b, 0, none⟩ : Addr) else some ⟨b, (i + 1) * 2, none⟩) = some A ∧ (∀ t u, news[t]? = some u → w.drew.cell? (A.add t) = some u) := by
  by_cases h:c=i+1
  ·refine ⟨⟨b, 0, none⟩, by simp [h], fun t u hu => ?_⟩
   have h0:news.length=0:=by rw [hlen];omega
   rw [List.length_eq_zero_iff.1 h0] at hu
   simp at hu
  ·refine ⟨⟨b, (i + 1) * 2, none⟩, by simp [h], fun t u hu => ?_⟩
   rw [hnews,List.getElem?_drop] at hu
   have:=hcs _ _ hu
   rw [Nat.zero_add] at this
   rw [Addr.add_lit]
   exact this
 have s2 : ∀ u ∈ news, u.oneCell' = true := fun u hu => by
  rw [hnews] at hu
  exact h1c u (List.mem_of_mem_drop hu)
 have s3 : ∀ t, t < news.length → (w.drew.cell? ⟨b, 0 + i * 2 + t, none⟩).isSome = true ∧ w.drew.frozen? ⟨b, 0 + i * 2 + t, none⟩ = false := by
  intro t ht
  rw [hlen] at ht
  rw [Nat.zero_add]
  exact⟨hsome _ (by omega),hfr _ (by omega)⟩
 obtain⟨W1,hW1⟩:∃ W1,W1=w.drew.setCells b (0+i*2) news:=⟨_,rfl⟩
 have hcl1 : ∀ ty, (Builtin.clear_ #[56] ty #[.slice (some ⟨b, (i + (n - (i + 1))) * 2, none⟩) (n - (i + (n - (i + 1)))) (c - (i + (n - (i + 1))))]).run Try.prog W1 = .ok (.tuple #[]) (W1.setCells b ((i + (n - (i + 1))) * 2) [.int .i64 0, .int .i64 0]) := fun ty =>
  run_clear_one W1 _ _ ty _ [.int .i64 0, .int .i64 0] hT hzv (by simp [Builtin.zeroCells, Value.cells]; rfl) (by simp [Value.oneCell']) b _ _ _ (by omega)
   (fun j hj => by
    simp only [List.length_cons,List.length_nil] at hj
    rw [hW1]
    exact isSome_setCells b _ _ _ (fun t ht=>(s3 t ht).1) _ (hsome _ (by omega)))
   (fun j hj => by
    simp only [List.length_cons,List.length_nil] at hj
    rw [hW1,World.frozen?_setCells];exact hfr _ (by omega))
 have hw1:IntKind.i64.wrap ((i:Int)+1)=(i:Int)+1:=by rw [IntKind.wrap_i64];omega
 have hic:i≤c:=by omega
 have hjc:i+1≤c:=by omega
 have hin:i≤n:=by omega
 have hjn:i+1≤n:=by omega
 have hne:¬ ((i:Int)=(i:Int)+1):=by omega
 have htn:((i:Int)+1).toNat=i+1:=by omega
 have hp1:(0:Int)≤(i:Int)+1:=by omega
 have hp2:(i:Int)+1≤(n:Int):=by omega
 have hp3:(i:Int)+1≤(c:Int):=by omega
 have hp4:(i:Int)≤(i:Int)+1:=by omega
 have hq:¬ c=i+(n - (i+1)):=by omega
 have hW:Hid (W1=w.drew.setCells b (0+i*2) news):=hW1
 rw [← hnews]
 clear hW1 hnews hcs hfz hsome hfr hcl
 go_enter Try.func112,Try.ntmps112
 go_wp2_with fail
 go_region_law (refine step_append_room rfl (.tmp 22) (.tmp 25) 56 rfl 60 i0 2 hT hi0 hzs b 0 i c (by simp [Act.eval,Act.put]) A (n - (i+1)) (c - (i+1)) news (by simp [Act.eval,Act.put,hA]) hlen hsrc s2 (by omega) s3 ?_;rw [← hW.out])
 go_wp2
 go_ret
 refine⟨by rw [show n - 1=i+(n - (i+1)) by omega];rfl,?_⟩
 rw [show n - 1=i+(n - (i+1)) by omega,hW.out,Nat.zero_add]
end Go.Proofs.Ytcepgfcolmdnoaa.RD
