/- Contracts of library functions at this program, one application each. The conditions stand in each statement. -/
import Derived.Shelf.Sort.Plain
import Derived.Shelf.Slices.In.SortNone
import Derived.Test.YtackggcodaolaaaProg
namespace Go.Proofs
open Go.Shelf
def Try.lays190_ren : Go.Shelf.Ren := ⟨fun | 190 => 121 | 125 => 192 | 258 => 191 | 128 => 243 | 129 => 244 | 302 => 234 | 303 => 235 | 304 => 236 | 305 => 237 | 306 => 238 | 307 => 239 | 308 => 240 | 309 => 241 | 310 => 242 | 333 => 262 | 329 => 263 | 330 => 264 | 334 => 265 | 335 => 266 | 336 => 247 | 344 => 277 | n => n, fun | 31 => 44 | 9 => 9 | 3 => 3 | 46 => 184 | 0 => 0 | 51 => 243 | 53 => 215 | 4 => 4 | 183 => 263 | 182 => 262 | 131 => 102 | 5 => 5 | 218 => 281 | 222 => 285 | 228 => 293 | 229 => 294 | n => n, fun | n => n⟩
theorem Try.lays190 : Go.Proofs.Lays.n190 Try.prog Try.lays190_ren := {
  mixed := by kernel_rfl
  f125 := Try.func192.trans (congrArg some (by kernel_rfl))
  f128 := Try.func243.trans (congrArg some (by kernel_rfl))
  f129 := Try.func244.trans (congrArg some (by kernel_rfl))
  f190 := Try.func121.trans (congrArg some (by kernel_rfl))
  f258 := Try.func191.trans (congrArg some (by kernel_rfl))
  f302 := Try.func234.trans (congrArg some (by kernel_rfl))
  f303 := Try.func235.trans (congrArg some (by kernel_rfl))
  f304 := Try.func236.trans (congrArg some (by kernel_rfl))
  f305 := Try.func237.trans (congrArg some (by kernel_rfl))
  f306 := Try.func238.trans (congrArg some (by kernel_rfl))
  f307 := Try.func239.trans (congrArg some (by kernel_rfl))
  f308 := Try.func240.trans (congrArg some (by kernel_rfl))
  f309 := Try.func241.trans (congrArg some (by kernel_rfl))
  f310 := Try.func242.trans (congrArg some (by kernel_rfl))
  f329 := Try.func263.trans (congrArg some (by kernel_rfl))
  f330 := Try.func264.trans (congrArg some (by kernel_rfl))
  f333 := Try.func262.trans (congrArg some (by kernel_rfl))
  f334 := Try.func265.trans (congrArg some (by kernel_rfl))
  f335 := Try.func266.trans (congrArg some (by kernel_rfl))
  f336 := Try.func247.trans (congrArg some (by kernel_rfl))
  f344 := Try.func277.trans (congrArg some (by kernel_rfl))
  t0 := Try.underlying0
  a0 := Try.isAgg0
  z0 := Try.sizeOf0
  v0 := Try.zeroValue0
  t3 := Try.underlying3
  a3 := Try.isAgg3
  z3 := Try.sizeOf3
  v3 := Try.zeroValue3
  t4 := Try.underlying4
  a4 := Try.isAgg4
  z4 := Try.sizeOf4
  v4 := Try.zeroValue4
  t5 := Try.underlying5
  a5 := Try.isAgg5
  z5 := Try.sizeOf5
  v5 := Try.zeroValue5
  t9 := Try.underlying9
  a9 := Try.isAgg9
  z9 := Try.sizeOf9
  v9 := Try.zeroValue9
  t31 := Try.underlying44
  a31 := Try.isAgg44
  z31 := Try.sizeOf44
  v31 := Try.zeroValue44
  t46 := Try.underlying184
  a46 := Try.isAgg184
  z46 := Try.sizeOf184
  v46 := Try.zeroValue184
  t51 := Try.underlying243
  a51 := Try.isAgg243
  z51 := Try.sizeOf243
  v51 := Try.zeroValue243
  t53 := Try.underlying215
  a53 := Try.isAgg215
  z53 := Try.sizeOf215
  v53 := Try.zeroValue215
  t131 := Try.underlying102
  a131 := Try.isAgg102
  z131 := Try.sizeOf102
  v131 := Try.zeroValue102
  t182 := Try.underlying262
  a182 := Try.isAgg262
  z182 := Try.sizeOf262
  v182 := Try.zeroValue262
  t183 := Try.underlying263
  a183 := Try.isAgg263
  z183 := Try.sizeOf263
  v183 := Try.zeroValue263
  t218 := Try.underlying281
  a218 := Try.isAgg281
  z218 := Try.sizeOf281
  v218 := Try.zeroValue281
  t222 := Try.underlying285
  a222 := Try.isAgg285
  z222 := Try.sizeOf285
  v222 := Try.zeroValue285
  t228 := Try.underlying293
  a228 := Try.isAgg293
  z228 := Try.sizeOf293
  v228 := Try.zeroValue293
  t229 := Try.underlying294
  a229 := Try.isAgg294
  z229 := Try.sizeOf294
  v229 := Try.zeroValue294 }
open Go.Sort Go.RowKit in
theorem Try.slices_Sort_string (blk off cap : Nat) (ss : List (List UInt8)) (w : World) (hH : Holds encStr w blk off ss.toArray) (hblk : blk < w.heap.size) (hsz : ss.length < 4611686018427387904) :
    Calls Try.prog 121 #[.slice (some ⟨blk, off, none⟩) ss.length cap] w fun e w' =>
      e = .returned (.tuple #[]) ∧ ∃ n os, w' = grow (putRow encStr (Sort.ahead w n) blk off (ss.mergeSort fun x y => decide (x ≤ y)).toArray) os := Any.slices_Sort_string Try.lays190 blk off cap ss w hH hblk hsz
open Go.RowKit Go.Sort in
theorem Try.slices_Sort_string_none (p : Option Addr) (cap : Nat) (w : World) :
    Calls Try.prog 121 #[.slice p 0 cap] w fun e w' => e = .returned (.tuple #[]) ∧ w' = w := Any.slices_Sort_string_none Try.lays190 p cap w
end Go.Proofs
