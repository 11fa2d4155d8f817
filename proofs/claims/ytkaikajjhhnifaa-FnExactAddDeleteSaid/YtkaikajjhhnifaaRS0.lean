/- slices.Sort at integers, laid at this program by the kit's own tool. -/
import Derived.Shelf.Sort.Plain
import Derived.Shelf.Slices.In.SortNone
import Derived.Test.YtkaikajjhhnifaaProg
namespace Go.Proofs
open Go.Shelf
def Try.lays189_ren : Go.Shelf.Ren := ⟨fun | 189 => 179 | 125 => 164 | 257 => 200 | 128 => 190 | 129 => 191 | 294 => 208 | 295 => 209 | 296 => 210 | 297 => 211 | 298 => 212 | 299 => 213 | 216 => 214 | 300 => 215 | 301 => 216 | 328 => 219 | 329 => 202 | 330 => 203 | 331 => 220 | 332 => 221 | 215 => 192 | 343 => 223 | n => n, fun | 28 => 22 | 3 => 3 | 46 => 174 | 0 => 0 | 51 => 195 | 53 => 197 | 4 => 4 | 183 => 189 | 182 => 188 | 131 => 71 | 5 => 5 | 9 => 9 | 218 => 207 | 222 => 211 | 228 => 218 | 229 => 69 | n => n, fun | n => n⟩
theorem Try.lays189 : Go.Proofs.Lays.n189 Try.prog Try.lays189_ren := {
  mixed := by kernel_rfl
  f125 := Try.func164.trans (congrArg some (by kernel_rfl))
  f128 := Try.func190.trans (congrArg some (by kernel_rfl))
  f129 := Try.func191.trans (congrArg some (by kernel_rfl))
  f189 := Try.func179.trans (congrArg some (by kernel_rfl))
  f215 := Try.func192.trans (congrArg some (by kernel_rfl))
  f216 := Try.func214.trans (congrArg some (by kernel_rfl))
  f257 := Try.func200.trans (congrArg some (by kernel_rfl))
  f294 := Try.func208.trans (congrArg some (by kernel_rfl))
  f295 := Try.func209.trans (congrArg some (by kernel_rfl))
  f296 := Try.func210.trans (congrArg some (by kernel_rfl))
  f297 := Try.func211.trans (congrArg some (by kernel_rfl))
  f298 := Try.func212.trans (congrArg some (by kernel_rfl))
  f299 := Try.func213.trans (congrArg some (by kernel_rfl))
  f300 := Try.func215.trans (congrArg some (by kernel_rfl))
  f301 := Try.func216.trans (congrArg some (by kernel_rfl))
  f328 := Try.func219.trans (congrArg some (by kernel_rfl))
  f329 := Try.func202.trans (congrArg some (by kernel_rfl))
  f330 := Try.func203.trans (congrArg some (by kernel_rfl))
  f331 := Try.func220.trans (congrArg some (by kernel_rfl))
  f332 := Try.func221.trans (congrArg some (by kernel_rfl))
  f343 := Try.func223.trans (congrArg some (by kernel_rfl))
  t0 := Try.underlying0
  a0 := Try.isAgg0
  z0 := Try.sizeOf0
  v0 := Try.zeroValue0
  t3 := Try.underlying3
  a3 := Try.isAgg3
  z3 := Try.sizeOf3
  v3 := Try.zeroValue3
  t4 := Try.underlying4
  a4 := Try.isAgg4
  z4 := Try.sizeOf4
  v4 := Try.zeroValue4
  t5 := Try.underlying5
  a5 := Try.isAgg5
  z5 := Try.sizeOf5
  v5 := Try.zeroValue5
  t9 := Try.underlying9
  a9 := Try.isAgg9
  z9 := Try.sizeOf9
  v9 := Try.zeroValue9
  t28 := Try.underlying22
  a28 := Try.isAgg22
  z28 := Try.sizeOf22
  v28 := Try.zeroValue22
  t46 := Try.underlying174
  a46 := Try.isAgg174
  z46 := Try.sizeOf174
  v46 := Try.zeroValue174
  t51 := Try.underlying195
  a51 := Try.isAgg195
  z51 := Try.sizeOf195
  v51 := Try.zeroValue195
  t53 := Try.underlying197
  a53 := Try.isAgg197
  z53 := Try.sizeOf197
  v53 := Try.zeroValue197
  t131 := Try.underlying71
  a131 := Try.isAgg71
  z131 := Try.sizeOf71
  v131 := Try.zeroValue71
  t182 := Try.underlying188
  a182 := Try.isAgg188
  z182 := Try.sizeOf188
  v182 := Try.zeroValue188
  t183 := Try.underlying189
  a183 := Try.isAgg189
  z183 := Try.sizeOf189
  v183 := Try.zeroValue189
  t218 := Try.underlying207
  a218 := Try.isAgg207
  z218 := Try.sizeOf207
  v218 := Try.zeroValue207
  t222 := Try.underlying211
  a222 := Try.isAgg211
  z222 := Try.sizeOf211
  v222 := Try.zeroValue211
  t228 := Try.underlying218
  a228 := Try.isAgg218
  z228 := Try.sizeOf218
  v228 := Try.zeroValue218
  t229 := Try.underlying69
  a229 := Try.isAgg69
  z229 := Try.sizeOf69
  v229 := Try.zeroValue69 }
open Go.Sort Go.RowKit in
theorem Try.slices_Sort_int (blk off cap : Nat) (zs : List Int) (w : World) (hH : Holds (Value.int .i64) w blk off zs.toArray) (hblk : blk < w.heap.size) (hsz : zs.length < 4611686018427387904) :
    Calls Try.prog 179 #[.slice (some ⟨blk, off, none⟩) zs.length cap] w fun e w' =>
      e = .returned (.tuple #[]) ∧ ∃ n os, w' = grow (putRow (Value.int .i64) (Sort.ahead w n) blk off (zs.mergeSort fun x y => decide (x ≤ y)).toArray) os := Any.slices_Sort_int Try.lays189 blk off cap zs w hH hblk hsz
open Go.RowKit Go.Sort in
/-- .. and plain. (LAID: no walk: one application.) -/
theorem Try.slices_Sort_int_none (p : Option Addr) (cap : Nat) (w : World) :
    Calls Try.prog 179 #[.slice p 0 cap] w fun e w' => e = .returned (.tuple #[]) ∧ w' = w := Any.slices_Sort_int_none Try.lays189 p cap w
end Go.Proofs
