/- slices.Sort at integers, laid at this program by the kit's own tool. -/
import Derived.Shelf.Sort.Plain
import Derived.Shelf.Slices.In.SortNone
import Derived.Test.YtcepgfcolmdnoaaProg
namespace Go.Proofs
open Go.Shelf
def Try.lays189_ren:Go.Shelf.Ren:=⟨fun|189=>169|125=>198|257=>197|128=>215|129=>216|294=>206|295=>207|296=>208|297=>209|298=>210|299=>211|216=>212|300=>213|301=>214|328=>226|329=>227|330=>228|331=>229|332=>230|215=>203|343=>235|n=>n,fun|28=>24|3=>3|46=>208|0=>0|51=>220|53=>222|4=>4|183=>214|182=>213|131=>48|5=>5|9=>9|218=>228|222=>232|228=>237|229=>121|n=>n,fun|n=>n⟩
theorem Try.lays189 : Go.Proofs.Lays.n189 Try.prog Try.lays189_ren := {
 mixed:=by kernel_rfl
 f125:=Try.func198.trans (congrArg some (by kernel_rfl))
 f128:=Try.func215.trans (congrArg some (by kernel_rfl))
 f129:=Try.func216.trans (congrArg some (by kernel_rfl))
 f189:=Try.func169.trans (congrArg some (by kernel_rfl))
 f215:=Try.func203.trans (congrArg some (by kernel_rfl))
 f216:=Try.func212.trans (congrArg some (by kernel_rfl))
 f257:=Try.func197.trans (congrArg some (by kernel_rfl))
 f294:=Try.func206.trans (congrArg some (by kernel_rfl))
 f295:=Try.func207.trans (congrArg some (by kernel_rfl))
 f296:=Try.func208.trans (congrArg some (by kernel_rfl))
 f297:=Try.func209.trans (congrArg some (by kernel_rfl))
 f298:=Try.func210.trans (congrArg some (by kernel_rfl))
 f299:=Try.func211.trans (congrArg some (by kernel_rfl))
 f300:=Try.func213.trans (congrArg some (by kernel_rfl))
 f301:=Try.func214.trans (congrArg some (by kernel_rfl))
 f328:=Try.func226.trans (congrArg some (by kernel_rfl))
 f329:=Try.func227.trans (congrArg some (by kernel_rfl))
 f330:=Try.func228.trans (congrArg some (by kernel_rfl))
 f331:=Try.func229.trans (congrArg some (by kernel_rfl))
 f332:=Try.func230.trans (congrArg some (by kernel_rfl))
 f343:=Try.func235.trans (congrArg some (by kernel_rfl))
 t0:=Try.underlying0
 a0:=Try.isAgg0
 z0:=Try.sizeOf0
 v0:=Try.zeroValue0
 t3:=Try.underlying3
 a3:=Try.isAgg3
 z3:=Try.sizeOf3
 v3:=Try.zeroValue3
 t4:=Try.underlying4
 a4:=Try.isAgg4
 z4:=Try.sizeOf4
 v4:=Try.zeroValue4
 t5:=Try.underlying5
 a5:=Try.isAgg5
 z5:=Try.sizeOf5
 v5:=Try.zeroValue5
 t9:=Try.underlying9
 a9:=Try.isAgg9
 z9:=Try.sizeOf9
 v9:=Try.zeroValue9
 t28:=Try.underlying24
 a28:=Try.isAgg24
 z28:=Try.sizeOf24
 v28:=Try.zeroValue24
 t46:=Try.underlying208
 a46:=Try.isAgg208
 z46:=Try.sizeOf208
 v46:=Try.zeroValue208
 t51:=Try.underlying220
 a51:=Try.isAgg220
 z51:=Try.sizeOf220
 v51:=Try.zeroValue220
 t53:=Try.underlying222
 a53:=Try.isAgg222
 z53:=Try.sizeOf222
 v53:=Try.zeroValue222
 t131:=Try.underlying48
 a131:=Try.isAgg48
 z131:=Try.sizeOf48
 v131:=Try.zeroValue48
 t182:=Try.underlying213
 a182:=Try.isAgg213
 z182:=Try.sizeOf213
 v182:=Try.zeroValue213
 t183:=Try.underlying214
 a183:=Try.isAgg214
 z183:=Try.sizeOf214
 v183:=Try.zeroValue214
 t218:=Try.underlying228
 a218:=Try.isAgg228
 z218:=Try.sizeOf228
 v218:=Try.zeroValue228
 t222:=Try.underlying232
 a222:=Try.isAgg232
 z222:=Try.sizeOf232
 v222:=Try.zeroValue232
 t228:=Try.underlying237
 a228:=Try.isAgg237
 z228:=Try.sizeOf237
 v228:=Try.zeroValue237
 t229:=Try.underlying121
 a229:=Try.isAgg121
 z229:=Try.sizeOf121
 v229:=Try.zeroValue121 }
open Go.Sort Go.RowKit in
theorem Try.slices_Sort_int (blk off cap : Nat) (zs : List Int) (w : World) (hH : Holds (Value.int .i64) w blk off zs.toArray) (hblk : blk < w.heap.size) (hsz : zs.length < 4611686018427387904) :
  Calls Try.prog 169 #[.slice (some ⟨blk, off, none⟩) zs.length cap] w fun e w' =>
   e = .returned (.tuple #[]) ∧ ∃ n os,w'=grow (putRow (Value.int .i64) (Sort.ahead w n) blk off (zs.mergeSort fun x y=>decide (x≤y)).toArray) os:=Any.slices_Sort_int Try.lays189 blk off cap zs w hH hblk hsz
open Go.RowKit Go.Sort in
/-- .. and plain. (LAID: no walk: one application.) -/
theorem Try.slices_Sort_int_none (p : Option Addr) (cap : Nat) (w : World) :
  Calls Try.prog 169 #[.slice p 0 cap] w fun e w'=>e = .returned (.tuple #[])∧w'=w:=Any.slices_Sort_int_none Try.lays189 p cap w
end Go.Proofs
