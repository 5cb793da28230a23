/- A PART OF THE PROOF: contracts of functions, each walked once (much of it printed by a program of the author's own). -/
import Derived.Shelf.SlSortCmp.NoneTotal
import Derived.Shelf.Small.Bits
import Derived.Shelf.Small.Wraps
import Derived.Shelf.Strconv.Itoa0
import Derived.Shelf.Sort.Plain
import Derived.Shelf.Strings.Prefix
import Derived.Shelf.Slices.Turned
import Derived.Ground.Names2Prog
import Derived.Shelf.Slices.Clone
import Derived.Shelf.Slices.CompactI
import Derived.Shelf.Slices.CompactS
import Derived.Shelf.Slices.SearchI
import Derived.Shelf.Slices.Cells
import Derived.Shelf.Slices.In.SortNone
import Derived.Ground.SlgnProg
import Derived.Shelf.SlicesE.Clone
import Derived.Test.YtfeechoaiiohhaaGreatDoorProg
set_option linter.unusedSimpArgs false
set_option linter.unusedVariables false
namespace Go.Proofs
open Go.Shelf
def Tryz.lays189_ren : Go.Shelf.Ren := ⟨fun | 189 => 70 | 125 => 116 | 257 => 115 | 128 => 166 | 129 => 167 | 294 => 157 | 295 => 158 | 296 => 159 | 297 => 160 | 298 => 161 | 299 => 162 | 216 => 163 | 300 => 164 | 301 => 165 | 328 => 182 | 329 => 183 | 330 => 184 | 331 => 185 | 332 => 186 | 215 => 132 | 343 => 210 | n => n, fun | 28 => 42 | 3 => 3 | 46 => 183 | 0 => 0 | 51 => 231 | 53 => 233 | 4 => 4 | 183 => 224 | 182 => 223 | 131 => 228 | 5 => 5 | 9 => 9 | 218 => 247 | 222 => 251 | 228 => 272 | 229 => 52 | n => n, fun | n => n⟩
theorem Tryz.lays189 : Go.Proofs.Lays.n189 Tryz.prog Tryz.lays189_ren := {
 mixed := by kernel_rfl
 f125 := Tryz.func116.trans (congrArg some (by kernel_rfl))
 f128 := Tryz.func166.trans (congrArg some (by kernel_rfl))
 f129 := Tryz.func167.trans (congrArg some (by kernel_rfl))
 f189 := Tryz.func70.trans (congrArg some (by kernel_rfl))
 f215 := Tryz.func132.trans (congrArg some (by kernel_rfl))
 f216 := Tryz.func163.trans (congrArg some (by kernel_rfl))
 f257 := Tryz.func115.trans (congrArg some (by kernel_rfl))
 f294 := Tryz.func157.trans (congrArg some (by kernel_rfl))
 f295 := Tryz.func158.trans (congrArg some (by kernel_rfl))
 f296 := Tryz.func159.trans (congrArg some (by kernel_rfl))
 f297 := Tryz.func160.trans (congrArg some (by kernel_rfl))
 f298 := Tryz.func161.trans (congrArg some (by kernel_rfl))
 f299 := Tryz.func162.trans (congrArg some (by kernel_rfl))
 f300 := Tryz.func164.trans (congrArg some (by kernel_rfl))
 f301 := Tryz.func165.trans (congrArg some (by kernel_rfl))
 f328 := Tryz.func182.trans (congrArg some (by kernel_rfl))
 f329 := Tryz.func183.trans (congrArg some (by kernel_rfl))
 f330 := Tryz.func184.trans (congrArg some (by kernel_rfl))
 f331 := Tryz.func185.trans (congrArg some (by kernel_rfl))
 f332 := Tryz.func186.trans (congrArg some (by kernel_rfl))
 f343 := Tryz.func210.trans (congrArg some (by kernel_rfl))
 t0 := Tryz.underlying0
 a0 := Tryz.isAgg0
 z0 := Tryz.sizeOf0
 v0 := Tryz.zeroValue0
 t3 := Tryz.underlying3
 a3 := Tryz.isAgg3
 z3 := Tryz.sizeOf3
 v3 := Tryz.zeroValue3
 t4 := Tryz.underlying4
 a4 := Tryz.isAgg4
 z4 := Tryz.sizeOf4
 v4 := Tryz.zeroValue4
 t5 := Tryz.underlying5
 a5 := Tryz.isAgg5
 z5 := Tryz.sizeOf5
 v5 := Tryz.zeroValue5
 t9 := Tryz.underlying9
 a9 := Tryz.isAgg9
 z9 := Tryz.sizeOf9
 v9 := Tryz.zeroValue9
 t28 := Tryz.underlying42
 a28 := Tryz.isAgg42
 z28 := Tryz.sizeOf42
 v28 := Tryz.zeroValue42
 t46 := Tryz.underlying183
 a46 := Tryz.isAgg183
 z46 := Tryz.sizeOf183
 v46 := Tryz.zeroValue183
 t51 := Tryz.underlying231
 a51 := Tryz.isAgg231
 z51 := Tryz.sizeOf231
 v51 := Tryz.zeroValue231
 t53 := Tryz.underlying233
 a53 := Tryz.isAgg233
 z53 := Tryz.sizeOf233
 v53 := Tryz.zeroValue233
 t131 := Tryz.underlying228
 a131 := Tryz.isAgg228
 z131 := Tryz.sizeOf228
 v131 := Tryz.zeroValue228
 t182 := Tryz.underlying223
 a182 := Tryz.isAgg223
 z182 := Tryz.sizeOf223
 v182 := Tryz.zeroValue223
 t183 := Tryz.underlying224
 a183 := Tryz.isAgg224
 z183 := Tryz.sizeOf224
 v183 := Tryz.zeroValue224
 t218 := Tryz.underlying247
 a218 := Tryz.isAgg247
 z218 := Tryz.sizeOf247
 v218 := Tryz.zeroValue247
 t222 := Tryz.underlying251
 a222 := Tryz.isAgg251
 z222 := Tryz.sizeOf251
 v222 := Tryz.zeroValue251
 t228 := Tryz.underlying272
 a228 := Tryz.isAgg272
 z228 := Tryz.sizeOf272
 v228 := Tryz.zeroValue272
 t229 := Tryz.underlying52
 a229 := Tryz.isAgg52
 z229 := Tryz.sizeOf52
 v229 := Tryz.zeroValue52 }
open Go.Sort Go.RowKit in
theorem Tryz.slices_Sort_int (blk off cap : Nat) (zs : List Int) (w : World) (hH : Holds (Value.int .i64) w blk off zs.toArray) (hblk : blk < w.heap.size) (hsz : zs.length < 4611686018427387904) :
  Calls Tryz.prog 70 #[.slice (some ⟨blk, off, none⟩) zs.length cap] w fun e w' =>
   e = .returned (.tuple #[]) ∧ ∃ n os, w' = grow (putRow (Value.int .i64) (Sort.ahead w n) blk off (zs.mergeSort fun x y => decide (x ≤ y)).toArray) os := Any.slices_Sort_int Tryz.lays189 blk off cap zs w hH hblk hsz
open Go.RowKit Go.Sort in
/-- .. and plain. (LAID: no walk: one application.) -/
theorem Tryz.slices_Sort_int_none (p : Option Addr) (cap : Nat) (w : World) :
  Calls Tryz.prog 70 #[.slice p 0 cap] w fun e w' => e = .returned (.tuple #[]) ∧ w' = w := Any.slices_Sort_int_none Tryz.lays189 p cap w
def Tryz.sort_api_Decision_ren : Go.Shelf.Ren := ⟨fun | 6 => 118 | 15 => 116 | 14 => 169 | 28 => 166 | 29 => 167 | 20 => 190 | 21 => 191 | 22 => 192 | 23 => 193 | 24 => 194 | 25 => 195 | 26 => 196 | 27 => 197 | 46 => 214 | 47 => 183 | 48 => 184 | 49 => 215 | 50 => 216 | 57 => 222 | n => n, fun | 22 => 26 | 24 => 77 | 25 => 187 | 3 => 3 | 39 => 183 | 0 => 0 | 53 => 231 | 55 => 233 | 4 => 4 | 46 => 224 | 45 => 223 | 50 => 228 | 5 => 5 | 9 => 9 | 66 => 247 | 70 => 251 | 76 => 272 | 77 => 52 | n => n, fun | n => n⟩
end Go.Proofs
