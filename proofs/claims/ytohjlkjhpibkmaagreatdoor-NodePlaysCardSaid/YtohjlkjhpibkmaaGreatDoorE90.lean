/-
  Contracts of the library at this program, laid by the kit's tool; what nothing uses is struck.
-/
import Derived.Shelf.Strconv.Itoa0
import Derived.Shelf.Sort.Plain
import Derived.Shelf.Slices.Turned
import Derived.Ground.Names2Prog
import Derived.Shelf.Slices.CompactI
import Derived.Shelf.Slices.In.SortNone
import Derived.Test.YtohjlkjhpibkmaaGreatDoorProg
namespace Go.Proofs
open Go.Shelf
def Tryz.lays189_ren : Go.Shelf.Ren := ⟨fun | 189 => 274 | 125 => 329 | 257 => 328 | 128 => 368 | 129 => 369 | 294 => 359 | 295 => 360 | 296 => 361 | 297 => 362 | 298 => 363 | 299 => 364 | 216 => 365 | 300 => 366 | 301 => 367 | 328 => 382 | 329 => 383 | 330 => 384 | 331 => 385 | 332 => 386 | 215 => 379 | 343 => 391 | n => n, fun | 28 => 60 | 3 => 3 | 46 => 377 | 0 => 0 | 51 => 395 | 53 => 22 | 4 => 4 | 183 => 390 | 182 => 389 | 131 => 151 | 5 => 5 | 9 => 9 | 218 => 402 | 222 => 305 | 228 => 408 | 229 => 409 | n => n, fun | n => n⟩
theorem Tryz.lays189 : Go.Proofs.Lays.n189 Tryz.prog Tryz.lays189_ren := {
  mixed := by kernel_rfl
  f125 := Tryz.func329.trans (congrArg some (by kernel_rfl))
  f128 := Tryz.func368.trans (congrArg some (by kernel_rfl))
  f129 := Tryz.func369.trans (congrArg some (by kernel_rfl))
  f189 := Tryz.func274.trans (congrArg some (by kernel_rfl))
  f215 := Tryz.func379.trans (congrArg some (by kernel_rfl))
  f216 := Tryz.func365.trans (congrArg some (by kernel_rfl))
  f257 := Tryz.func328.trans (congrArg some (by kernel_rfl))
  f294 := Tryz.func359.trans (congrArg some (by kernel_rfl))
  f295 := Tryz.func360.trans (congrArg some (by kernel_rfl))
  f296 := Tryz.func361.trans (congrArg some (by kernel_rfl))
  f297 := Tryz.func362.trans (congrArg some (by kernel_rfl))
  f298 := Tryz.func363.trans (congrArg some (by kernel_rfl))
  f299 := Tryz.func364.trans (congrArg some (by kernel_rfl))
  f300 := Tryz.func366.trans (congrArg some (by kernel_rfl))
  f301 := Tryz.func367.trans (congrArg some (by kernel_rfl))
  f328 := Tryz.func382.trans (congrArg some (by kernel_rfl))
  f329 := Tryz.func383.trans (congrArg some (by kernel_rfl))
  f330 := Tryz.func384.trans (congrArg some (by kernel_rfl))
  f331 := Tryz.func385.trans (congrArg some (by kernel_rfl))
  f332 := Tryz.func386.trans (congrArg some (by kernel_rfl))
  f343 := Tryz.func391.trans (congrArg some (by kernel_rfl))
  t0 := Tryz.underlying0
  a0 := Tryz.isAgg0
  z0 := Tryz.sizeOf0
  v0 := Tryz.zeroValue0
  t3 := Tryz.underlying3
  a3 := Tryz.isAgg3
  z3 := Tryz.sizeOf3
  v3 := Tryz.zeroValue3
  t4 := Tryz.underlying4
  a4 := Tryz.isAgg4
  z4 := Tryz.sizeOf4
  v4 := Tryz.zeroValue4
  t5 := Tryz.underlying5
  a5 := Tryz.isAgg5
  z5 := Tryz.sizeOf5
  v5 := Tryz.zeroValue5
  t9 := Tryz.underlying9
  a9 := Tryz.isAgg9
  z9 := Tryz.sizeOf9
  v9 := Tryz.zeroValue9
  t28 := Tryz.underlying60
  a28 := Tryz.isAgg60
  z28 := Tryz.sizeOf60
  v28 := Tryz.zeroValue60
  t46 := Tryz.underlying377
  a46 := Tryz.isAgg377
  z46 := Tryz.sizeOf377
  v46 := Tryz.zeroValue377
  t51 := Tryz.underlying395
  a51 := Tryz.isAgg395
  z51 := Tryz.sizeOf395
  v51 := Tryz.zeroValue395
  t53 := Tryz.underlying22
  a53 := Tryz.isAgg22
  z53 := Tryz.sizeOf22
  v53 := Tryz.zeroValue22
  t131 := Tryz.underlying151
  a131 := Tryz.isAgg151
  z131 := Tryz.sizeOf151
  v131 := Tryz.zeroValue151
  t182 := Tryz.underlying389
  a182 := Tryz.isAgg389
  z182 := Tryz.sizeOf389
  v182 := Tryz.zeroValue389
  t183 := Tryz.underlying390
  a183 := Tryz.isAgg390
  z183 := Tryz.sizeOf390
  v183 := Tryz.zeroValue390
  t218 := Tryz.underlying402
  a218 := Tryz.isAgg402
  z218 := Tryz.sizeOf402
  v218 := Tryz.zeroValue402
  t222 := Tryz.underlying305
  a222 := Tryz.isAgg305
  z222 := Tryz.sizeOf305
  v222 := Tryz.zeroValue305
  t228 := Tryz.underlying408
  a228 := Tryz.isAgg408
  z228 := Tryz.sizeOf408
  v228 := Tryz.zeroValue408
  t229 := Tryz.underlying409
  a229 := Tryz.isAgg409
  z229 := Tryz.sizeOf409
  v229 := Tryz.zeroValue409 }
open Go.Sort Go.RowKit in
theorem Tryz.slices_Sort_int (blk off cap : Nat) (zs : List Int) (w : World) (hH : Holds (Value.int .i64) w blk off zs.toArray) (hblk : blk < w.heap.size) (hsz : zs.length < 4611686018427387904) :
    Calls Tryz.prog 274 #[.slice (some ⟨blk, off, none⟩) zs.length cap] w fun e w' =>
      e = .returned (.tuple #[]) ∧ ∃ n os, w' = grow (putRow (Value.int .i64) (Sort.ahead w n) blk off (zs.mergeSort fun x y => decide (x ≤ y)).toArray) os := Any.slices_Sort_int Tryz.lays189 blk off cap zs w hH hblk hsz
def Tryz.laysNm220_ren : Go.Shelf.Ren := ⟨fun | 20 => 278 | n => n, fun | 22 => 60 | 3 => 3 | 4 => 4 | 0 => 0 | n => n, fun | n => n⟩
theorem Tryz.laysNm220 : Go.Proofs.Lays2.n20 Tryz.prog Tryz.laysNm220_ren := {
  mixed := by kernel_rfl
  f20 := Tryz.func278.trans (congrArg some (by kernel_rfl))
  t0 := Tryz.underlying0
  a0 := Tryz.isAgg0
  z0 := Tryz.sizeOf0
  v0 := Tryz.zeroValue0
  t3 := Tryz.underlying3
  a3 := Tryz.isAgg3
  z3 := Tryz.sizeOf3
  v3 := Tryz.zeroValue3
  t4 := Tryz.underlying4
  a4 := Tryz.isAgg4
  z4 := Tryz.sizeOf4
  v4 := Tryz.zeroValue4
  t22 := Tryz.underlying60
  a22 := Tryz.isAgg60
  z22 := Tryz.sizeOf60
  v22 := Tryz.zeroValue60
  i3 := by kernel_rfl }
open Go.RowKit Go.Lib Go.Sort in
/-- slices.Compact at []int: "Compact replaces consecutive runs of equal elements with a single copy. This is like the uniq command found on Unix. Compact modifies the contents of the slice s and returns the modified slice, which may have a smaller length. Compact zeroes the elements between the new length and the original length. The result preserves the nilness of s.": IT RETURNS THE SLICE CUT TO 'Lib.compact zs'; ITS CELLS HOLD 'Lib.compact zs', THEN ZERO VALUES up to the old length; all else is as it was, but for the count of draws. IN THE WORDS OF slices.Sort's CONTRACT ('Holds', 'putRow'): so the everyday 'slices.Sort(xs); xs = slices.Compact(xs)' goes from the one contract to the other. It asks 'zs.length ≤ cap' (every slice's: the reslicing 's[:k]' looks at it). Length 0, nil: '.._empty'. (LAID: no walk: one application.) -/
theorem Tryz.slices_Compact_int (blk off cap : Nat) (zs : List Int) (w : World) (hH : Holds (Value.int .i64) w blk off zs.toArray) (hsz : zs.length ≤ 9223372036854775807) (hcap : zs.length ≤ cap) :
    Calls Tryz.prog 278 #[.slice (some ⟨blk, off, none⟩) zs.length cap] w fun e w' => e = .returned (.slice (some ⟨blk, off, none⟩) (Lib.compact zs).length cap) ∧ ∃ q, w' = putRow (Value.int .i64) (Sort.ahead w q) blk off (Lib.compact zs ++ List.replicate (zs.length - (Lib.compact zs).length) 0).toArray := Any.slices_Compact_int Tryz.laysNm220 blk off cap zs w hH hsz hcap
open Go.RowKit Go.Lib Go.Sort in
/-- The same at a slice of length 0, a nil one too: it comes back as it is. (LAID: no walk: one application.) -/
theorem Tryz.slices_Compact_int_empty (a : Option Addr) (cap : Nat) (w : World) :
    Calls Tryz.prog 278 #[.slice a 0 cap] w fun e w' => e = .returned (.slice a 0 cap) ∧ w' = w := Any.slices_Compact_int_empty Tryz.laysNm220 a cap w
open Go.RowKit Go.Sort in
/-- .. and plain. (LAID: no walk: one application.) -/
theorem Tryz.slices_Sort_int_none (p : Option Addr) (cap : Nat) (w : World) :
    Calls Tryz.prog 274 #[.slice p 0 cap] w fun e w' => e = .returned (.tuple #[]) ∧ w' = w := Any.slices_Sort_int_none Tryz.lays189 p cap w
end Go.Proofs
