/- slices.SortFunc at pairs, and cmp.Compare, laid at this program by the kit's own tool. -/
import Derived.Shelf.Small.Wraps
import Derived.Ground.Names2Prog
import Derived.Ground.SlgnProg
import Derived.Ground.SlsfProg
import Derived.Shelf.SlSortCmp.NoneTotal
import Derived.Test.YtcepgfcolmdnoaaProg
namespace Go.Proofs
open Go.Shelf
def Try.lays122_ren:Go.Shelf.Ren:=⟨fun|122=>190|215=>203|n=>n,fun|3=>3|4=>4|n=>n,fun|n=>n⟩
theorem Try.lays122 : Go.Proofs.Lays.n122 Try.prog Try.lays122_ren := {
 mixed:=by kernel_rfl
 f122:=Try.func190.trans (congrArg some (by kernel_rfl))
 f215:=Try.func203.trans (congrArg some (by kernel_rfl))
 t3:=Try.underlying3
 a3:=Try.isAgg3
 z3:=Try.sizeOf3
 v3:=Try.zeroValue3
 t4:=Try.underlying4
 a4:=Try.isAgg4
 z4:=Try.sizeOf4
 v4:=Try.zeroValue4 }
open Go.RowKit in
theorem Try.cmp_Compare_int (x y : Int) (w : World) :
  Calls Try.prog 190 #[.int .i64 x,.int .i64 y] w fun e w'=>e = .returned (.int .i64 (Lib.compareInt x y))∧w'=w:=Any.cmp_Compare_int Try.lays122 x y w
def Try.laysSlF06_f187_ren:Go.Shelf.Ren:=⟨fun|6=>187|15=>198|14=>202|28=>215|29=>216|20=>217|21=>218|22=>219|23=>220|24=>221|25=>222|26=>223|27=>224|46=>231|47=>227|48=>228|49=>232|50=>233|57=>236|n=>n,fun|22=>102|24=>173|25=>199|3=>3|39=>208|0=>0|53=>220|55=>222|4=>4|46=>214|45=>213|50=>48|5=>5|9=>9|66=>228|70=>232|76=>237|77=>121|n=>n,fun|n=>n⟩
theorem Try.laysSlF06_f187 : Go.Proofs.SlLaysF0.n6 Try.prog Try.laysSlF06_f187_ren := {
 mixed:=by kernel_rfl
 f6:=⟨Try.f187.name,by decide,Try.func187.trans (congrArg some (by kernel_rfl))⟩
 f14:=⟨Try.f202.name,by decide,Try.func202.trans (congrArg some (by kernel_rfl))⟩
 f15:=Try.func198.trans (congrArg some (by kernel_rfl))
 f20:=⟨Try.f217.name,by decide,Try.func217.trans (congrArg some (by kernel_rfl))⟩
 f21:=⟨Try.f218.name,by decide,Try.func218.trans (congrArg some (by kernel_rfl))⟩
 f22:=⟨Try.f219.name,by decide,Try.func219.trans (congrArg some (by kernel_rfl))⟩
 f23:=⟨Try.f220.name,by decide,Try.func220.trans (congrArg some (by kernel_rfl))⟩
 f24:=⟨Try.f221.name,by decide,Try.func221.trans (congrArg some (by kernel_rfl))⟩
 f25:=⟨Try.f222.name,by decide,Try.func222.trans (congrArg some (by kernel_rfl))⟩
 f26:=⟨Try.f223.name,by decide,Try.func223.trans (congrArg some (by kernel_rfl))⟩
 f27:=⟨Try.f224.name,by decide,Try.func224.trans (congrArg some (by kernel_rfl))⟩
 f28:=Try.func215.trans (congrArg some (by kernel_rfl))
 f29:=Try.func216.trans (congrArg some (by kernel_rfl))
 f46:=⟨Try.f231.name,by decide,Try.func231.trans (congrArg some (by kernel_rfl))⟩
 f47:=Try.func227.trans (congrArg some (by kernel_rfl))
 f48:=Try.func228.trans (congrArg some (by kernel_rfl))
 f49:=⟨Try.f232.name,by decide,Try.func232.trans (congrArg some (by kernel_rfl))⟩
 f50:=⟨Try.f233.name,by decide,Try.func233.trans (congrArg some (by kernel_rfl))⟩
 f57:=⟨Try.f236.name,by decide,Try.func236.trans (congrArg some (by kernel_rfl))⟩
 t0:=Try.underlying0
 a0:=Try.isAgg0
 z0:=Try.sizeOf0
 v0:=Try.zeroValue0
 t3:=Try.underlying3
 a3:=Try.isAgg3
 z3:=Try.sizeOf3
 v3:=Try.zeroValue3
 t4:=Try.underlying4
 a4:=Try.isAgg4
 z4:=Try.sizeOf4
 v4:=Try.zeroValue4
 t5:=Try.underlying5
 a5:=Try.isAgg5
 z5:=Try.sizeOf5
 v5:=Try.zeroValue5
 t9:=Try.underlying9
 a9:=Try.isAgg9
 z9:=Try.sizeOf9
 v9:=Try.zeroValue9
 t22:=Try.underlying102
 a22:=Try.isAgg102
 z22:=Try.sizeOf102
 v22:=Try.zeroValue102
 t25:=Try.underlying199
 a25:=Try.isAgg199
 z25:=Try.sizeOf199
 v25:=Try.zeroValue199
 t39:=Try.underlying208
 a39:=Try.isAgg208
 z39:=Try.sizeOf208
 v39:=Try.zeroValue208
 t45:=Try.underlying213
 a45:=Try.isAgg213
 z45:=Try.sizeOf213
 v45:=Try.zeroValue213
 t46:=Try.underlying214
 a46:=Try.isAgg214
 z46:=Try.sizeOf214
 v46:=Try.zeroValue214
 t50:=Try.underlying48
 a50:=Try.isAgg48
 z50:=Try.sizeOf48
 v50:=Try.zeroValue48
 t53:=Try.underlying220
 a53:=Try.isAgg220
 z53:=Try.sizeOf220
 v53:=Try.zeroValue220
 t55:=Try.underlying222
 a55:=Try.isAgg222
 z55:=Try.sizeOf222
 v55:=Try.zeroValue222
 t66:=Try.underlying228
 a66:=Try.isAgg228
 z66:=Try.sizeOf228
 v66:=Try.zeroValue228
 t70:=Try.underlying232
 a70:=Try.isAgg232
 z70:=Try.sizeOf232
 v70:=Try.zeroValue232
 t76:=Try.underlying237
 a76:=Try.isAgg237
 z76:=Try.sizeOf237
 v76:=Try.zeroValue237
 t77:=Try.underlying121
 a77:=Try.isAgg121
 z77:=Try.sizeOf121
 v77:=Try.zeroValue121 }
open Go.RowKit Go.Lib Go.Sort in
theorem Try.slices_SortFunc_none {α : Type} [Inhabited α] (p : Option Addr) (cap : Nat) (fv : Value) (w : World) :
  Calls Try.prog 187 #[.slice p 0 cap,fv] w fun e w'=>e = .returned (.tuple #[])∧w'=w:=AnyF.slices_SortFunc_none Try.laysSlF06_f187 p cap fv w
open Go.RowKit Go.Lib Go.Sort in
theorem Try.slices_SortFunc_total {α : Type} [Inhabited α] (k : Nat) (aE : ∀ w, (isAgg 173).run Try.prog w = .ok true w) (zE : ∀ w, (Go.sizeOf 173).run Try.prog w = .ok k w) (enc : α → List Value) (hk : ∀ x, (enc x).length = k) (h1 : ∀ x, ∀ v ∈ enc x, v.oneCell' = true) (cf : α → α → Int) (hO : SWO (ltOf cf)) (g : Nat) (cb : Array Value) (blk off cap : Nat) (d : Array α) (w : World) (eg : ∀ args w, (callFunc g args).run Try.prog w = .ok (.enter g args) w) (hcmp : CmpLays Try.prog g cb enc k cf blk off d.size w) (hH : HoldsK enc k w blk off d) (hblk : blk < w.heap.size) (hsz : d.size < 4611686018427387904) (hT : ∀ x y, (ltOf cf) x y = false → (ltOf cf) y x = false → x = y) :
  Calls Try.prog 187 #[.slice (some ⟨blk, off, none⟩) d.size cap, .func (.func g) #[] cb] w fun e w' =>
   e = .returned (.tuple #[]) ∧ ∃ n os,w'=sortWorldK enc k w blk off n (d.toList.mergeSort fun x y=>!(ltOf cf) y x).toArray os:=AnyQ.slices_SortFunc_total Try.laysSlF06_f187 k aE zE enc hk h1 cf hO g cb blk off cap d w eg hcmp hH hblk hsz hT
end Go.Proofs
