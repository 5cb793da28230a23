/- A PART OF THE PROOF: contracts of functions, each walked once (much of it printed by a program of the author's own). -/
import Derived.Shelf.SlSortCmp.NoneTotal
import Derived.Shelf.Small.Bits
import Derived.Shelf.Small.Wraps
import Derived.Shelf.Strconv.Itoa0
import Derived.Shelf.Sort.Plain
import Derived.Shelf.Strings.Prefix
import Derived.Ground.Names2Prog
import Derived.Shelf.Slices.CompactI
import Derived.Shelf.Slices.CompactS
import Derived.Shelf.Slices.SearchI
import Derived.Shelf.Slices.Cells
import Derived.Shelf.Slices.In.SortNone
import Derived.Test.YtfpiiheehdedmaaGreatDoorProg
set_option linter.unusedSimpArgs false
set_option linter.unusedVariables false
set_option maxRecDepth 4000
namespace Go.Proofs
open Go.Shelf
def Tryz.lays189_ren : Go.Shelf.Ren := ⟨fun | 189 => 94 | 125 => 130 | 257 => 129 | 128 => 174 | 129 => 175 | 294 => 165 | 295 => 166 | 296 => 167 | 297 => 168 | 298 => 169 | 299 => 170 | 216 => 171 | 300 => 172 | 301 => 173 | 328 => 217 | 329 => 218 | 330 => 219 | 331 => 220 | 332 => 221 | 215 => 149 | 343 => 235 | n => n, fun | 28 => 42 | 3 => 3 | 46 => 205 | 0 => 0 | 51 => 164 | 53 => 251 | 4 => 4 | 183 => 243 | 182 => 242 | 131 => 247 | 5 => 5 | 9 => 9 | 218 => 277 | 222 => 281 | 228 => 292 | 229 => 52 | n => n, fun | n => n⟩
theorem Tryz.lays189 : Go.Proofs.Lays.n189 Tryz.prog Tryz.lays189_ren := {
 mixed := by kernel_rfl
 f125 := Tryz.func130.trans (congrArg some (by kernel_rfl))
 f128 := Tryz.func174.trans (congrArg some (by kernel_rfl))
 f129 := Tryz.func175.trans (congrArg some (by kernel_rfl))
 f189 := Tryz.func94.trans (congrArg some (by kernel_rfl))
 f215 := Tryz.func149.trans (congrArg some (by kernel_rfl))
 f216 := Tryz.func171.trans (congrArg some (by kernel_rfl))
 f257 := Tryz.func129.trans (congrArg some (by kernel_rfl))
 f294 := Tryz.func165.trans (congrArg some (by kernel_rfl))
 f295 := Tryz.func166.trans (congrArg some (by kernel_rfl))
 f296 := Tryz.func167.trans (congrArg some (by kernel_rfl))
 f297 := Tryz.func168.trans (congrArg some (by kernel_rfl))
 f298 := Tryz.func169.trans (congrArg some (by kernel_rfl))
 f299 := Tryz.func170.trans (congrArg some (by kernel_rfl))
 f300 := Tryz.func172.trans (congrArg some (by kernel_rfl))
 f301 := Tryz.func173.trans (congrArg some (by kernel_rfl))
 f328 := Tryz.func217.trans (congrArg some (by kernel_rfl))
 f329 := Tryz.func218.trans (congrArg some (by kernel_rfl))
 f330 := Tryz.func219.trans (congrArg some (by kernel_rfl))
 f331 := Tryz.func220.trans (congrArg some (by kernel_rfl))
 f332 := Tryz.func221.trans (congrArg some (by kernel_rfl))
 f343 := Tryz.func235.trans (congrArg some (by kernel_rfl))
 t0 := Tryz.underlying0
 a0 := Tryz.isAgg0
 z0 := Tryz.sizeOf0
 v0 := Tryz.zeroValue0
 t3 := Tryz.underlying3
 a3 := Tryz.isAgg3
 z3 := Tryz.sizeOf3
 v3 := Tryz.zeroValue3
 t4 := Tryz.underlying4
 a4 := Tryz.isAgg4
 z4 := Tryz.sizeOf4
 v4 := Tryz.zeroValue4
 t5 := Tryz.underlying5
 a5 := Tryz.isAgg5
 z5 := Tryz.sizeOf5
 v5 := Tryz.zeroValue5
 t9 := Tryz.underlying9
 a9 := Tryz.isAgg9
 z9 := Tryz.sizeOf9
 v9 := Tryz.zeroValue9
 t28 := Tryz.underlying42
 a28 := Tryz.isAgg42
 z28 := Tryz.sizeOf42
 v28 := Tryz.zeroValue42
 t46 := Tryz.underlying205
 a46 := Tryz.isAgg205
 z46 := Tryz.sizeOf205
 v46 := Tryz.zeroValue205
 t51 := Tryz.underlying164
 a51 := Tryz.isAgg164
 z51 := Tryz.sizeOf164
 v51 := Tryz.zeroValue164
 t53 := Tryz.underlying251
 a53 := Tryz.isAgg251
 z53 := Tryz.sizeOf251
 v53 := Tryz.zeroValue251
 t131 := Tryz.underlying247
 a131 := Tryz.isAgg247
 z131 := Tryz.sizeOf247
 v131 := Tryz.zeroValue247
 t182 := Tryz.underlying242
 a182 := Tryz.isAgg242
 z182 := Tryz.sizeOf242
 v182 := Tryz.zeroValue242
 t183 := Tryz.underlying243
 a183 := Tryz.isAgg243
 z183 := Tryz.sizeOf243
 v183 := Tryz.zeroValue243
 t218 := Tryz.underlying277
 a218 := Tryz.isAgg277
 z218 := Tryz.sizeOf277
 v218 := Tryz.zeroValue277
 t222 := Tryz.underlying281
 a222 := Tryz.isAgg281
 z222 := Tryz.sizeOf281
 v222 := Tryz.zeroValue281
 t228 := Tryz.underlying292
 a228 := Tryz.isAgg292
 z228 := Tryz.sizeOf292
 v228 := Tryz.zeroValue292
 t229 := Tryz.underlying52
 a229 := Tryz.isAgg52
 z229 := Tryz.sizeOf52
 v229 := Tryz.zeroValue52 }
open Go.Sort Go.RowKit in
theorem Tryz.slices_Sort_int (blk off cap : Nat) (zs : List Int) (w : World) (hH : Holds (Value.int .i64) w blk off zs.toArray) (hblk : blk < w.heap.size) (hsz : zs.length < 4611686018427387904) :
  Calls Tryz.prog 94 #[.slice (some ⟨blk, off, none⟩) zs.length cap] w fun e w' =>
   e = .returned (.tuple #[]) ∧ ∃ n os, w' = grow (putRow (Value.int .i64) (Sort.ahead w n) blk off (zs.mergeSort fun x y => decide (x ≤ y)).toArray) os := Any.slices_Sort_int Tryz.lays189 blk off cap zs w hH hblk hsz
def Tryz.lays190_ren : Go.Shelf.Ren := ⟨fun | 190 => 119 | 125 => 130 | 258 => 161 | 128 => 174 | 129 => 175 | 302 => 207 | 303 => 208 | 304 => 209 | 305 => 210 | 306 => 211 | 307 => 212 | 308 => 213 | 309 => 214 | 310 => 215 | 333 => 232 | 329 => 218 | 330 => 219 | 334 => 233 | 335 => 234 | 336 => 188 | 344 => 240 | n => n, fun | 31 => 60 | 9 => 9 | 3 => 3 | 46 => 205 | 0 => 0 | 51 => 164 | 53 => 251 | 4 => 4 | 183 => 243 | 182 => 242 | 131 => 247 | 5 => 5 | 218 => 277 | 222 => 281 | 228 => 292 | 229 => 52 | n => n, fun | n => n⟩
theorem Tryz.lays190 : Go.Proofs.Lays.n190 Tryz.prog Tryz.lays190_ren := {
 mixed := by kernel_rfl
 f125 := Tryz.func130.trans (congrArg some (by kernel_rfl))
 f128 := Tryz.func174.trans (congrArg some (by kernel_rfl))
 f129 := Tryz.func175.trans (congrArg some (by kernel_rfl))
 f190 := Tryz.func119.trans (congrArg some (by kernel_rfl))
 f258 := Tryz.func161.trans (congrArg some (by kernel_rfl))
 f302 := Tryz.func207.trans (congrArg some (by kernel_rfl))
 f303 := Tryz.func208.trans (congrArg some (by kernel_rfl))
 f304 := Tryz.func209.trans (congrArg some (by kernel_rfl))
 f305 := Tryz.func210.trans (congrArg some (by kernel_rfl))
 f306 := Tryz.func211.trans (congrArg some (by kernel_rfl))
 f307 := Tryz.func212.trans (congrArg some (by kernel_rfl))
 f308 := Tryz.func213.trans (congrArg some (by kernel_rfl))
 f309 := Tryz.func214.trans (congrArg some (by kernel_rfl))
 f310 := Tryz.func215.trans (congrArg some (by kernel_rfl))
 f329 := Tryz.func218.trans (congrArg some (by kernel_rfl))
 f330 := Tryz.func219.trans (congrArg some (by kernel_rfl))
 f333 := Tryz.func232.trans (congrArg some (by kernel_rfl))
 f334 := Tryz.func233.trans (congrArg some (by kernel_rfl))
 f335 := Tryz.func234.trans (congrArg some (by kernel_rfl))
 f336 := Tryz.func188.trans (congrArg some (by kernel_rfl))
 f344 := Tryz.func240.trans (congrArg some (by kernel_rfl))
 t0 := Tryz.underlying0
 a0 := Tryz.isAgg0
 z0 := Tryz.sizeOf0
 v0 := Tryz.zeroValue0
 t3 := Tryz.underlying3
 a3 := Tryz.isAgg3
 z3 := Tryz.sizeOf3
 v3 := Tryz.zeroValue3
 t4 := Tryz.underlying4
 a4 := Tryz.isAgg4
 z4 := Tryz.sizeOf4
 v4 := Tryz.zeroValue4
 t5 := Tryz.underlying5
 a5 := Tryz.isAgg5
 z5 := Tryz.sizeOf5
 v5 := Tryz.zeroValue5
 t9 := Tryz.underlying9
 a9 := Tryz.isAgg9
 z9 := Tryz.sizeOf9
 v9 := Tryz.zeroValue9
 t31 := Tryz.underlying60
 a31 := Tryz.isAgg60
 z31 := Tryz.sizeOf60
 v31 := Tryz.zeroValue60
 t46 := Tryz.underlying205
 a46 := Tryz.isAgg205
 z46 := Tryz.sizeOf205
 v46 := Tryz.zeroValue205
 t51 := Tryz.underlying164
 a51 := Tryz.isAgg164
 z51 := Tryz.sizeOf164
 v51 := Tryz.zeroValue164
 t53 := Tryz.underlying251
 a53 := Tryz.isAgg251
 z53 := Tryz.sizeOf251
 v53 := Tryz.zeroValue251
 t131 := Tryz.underlying247
 a131 := Tryz.isAgg247
 z131 := Tryz.sizeOf247
 v131 := Tryz.zeroValue247
 t182 := Tryz.underlying242
 a182 := Tryz.isAgg242
 z182 := Tryz.sizeOf242
 v182 := Tryz.zeroValue242
 t183 := Tryz.underlying243
 a183 := Tryz.isAgg243
 z183 := Tryz.sizeOf243
 v183 := Tryz.zeroValue243
 t218 := Tryz.underlying277
 a218 := Tryz.isAgg277
 z218 := Tryz.sizeOf277
 v218 := Tryz.zeroValue277
 t222 := Tryz.underlying281
 a222 := Tryz.isAgg281
 z222 := Tryz.sizeOf281
 v222 := Tryz.zeroValue281
 t228 := Tryz.underlying292
 a228 := Tryz.isAgg292
 z228 := Tryz.sizeOf292
 v228 := Tryz.zeroValue292
 t229 := Tryz.underlying52
 a229 := Tryz.isAgg52
 z229 := Tryz.sizeOf52
 v229 := Tryz.zeroValue52 }
open Go.Sort Go.RowKit in
theorem Tryz.slices_Sort_string (blk off cap : Nat) (ss : List (List UInt8)) (w : World) (hH : Holds encStr w blk off ss.toArray) (hblk : blk < w.heap.size) (hsz : ss.length < 4611686018427387904) :
  Calls Tryz.prog 119 #[.slice (some ⟨blk, off, none⟩) ss.length cap] w fun e w' =>
   e = .returned (.tuple #[]) ∧ ∃ n os, w' = grow (putRow encStr (Sort.ahead w n) blk off (ss.mergeSort fun x y => decide (x ≤ y)).toArray) os := Any.slices_Sort_string Tryz.lays190 blk off cap ss w hH hblk hsz
open Go.RowKit Go.Sort in
theorem Tryz.slices_Sort_string_none (p : Option Addr) (cap : Nat) (w : World) :
  Calls Tryz.prog 119 #[.slice p 0 cap] w fun e w' => e = .returned (.tuple #[]) ∧ w' = w := Any.slices_Sort_string_none Tryz.lays190 p cap w
open Go.RowKit Go.Sort in
theorem Tryz.slices_Sort_int_none (p : Option Addr) (cap : Nat) (w : World) :
  Calls Tryz.prog 94 #[.slice p 0 cap] w fun e w' => e = .returned (.tuple #[]) ∧ w' = w := Any.slices_Sort_int_none Tryz.lays189 p cap w
def Tryz.sort_api_Decision_ren : Go.Shelf.Ren := ⟨fun | 6 => 111 | 15 => 130 | 14 => 151 | 28 => 174 | 29 => 175 | 20 => 196 | 21 => 197 | 22 => 198 | 23 => 199 | 24 => 200 | 25 => 201 | 26 => 202 | 27 => 203 | 46 => 229 | 47 => 218 | 48 => 219 | 49 => 230 | 50 => 231 | 57 => 239 | n => n, fun | 22 => 26 | 24 => 74 | 25 => 178 | 3 => 3 | 39 => 205 | 0 => 0 | 53 => 164 | 55 => 251 | 4 => 4 | 46 => 243 | 45 => 242 | 50 => 247 | 5 => 5 | 9 => 9 | 66 => 277 | 70 => 281 | 76 => 292 | 77 => 52 | n => n, fun | n => n⟩
theorem Tryz.sort_api_Decision : Go.Proofs.SlLaysF0.n6 Tryz.prog Tryz.sort_api_Decision_ren := {
 mixed := by kernel_rfl
 f6 := ⟨Tryz.f111.name, by decide, Tryz.func111.trans (congrArg some (by kernel_rfl))⟩
 f14 := ⟨Tryz.f151.name, by decide, Tryz.func151.trans (congrArg some (by kernel_rfl))⟩
 f15 := Tryz.func130.trans (congrArg some (by kernel_rfl))
 f20 := ⟨Tryz.f196.name, by decide, Tryz.func196.trans (congrArg some (by kernel_rfl))⟩
 f21 := ⟨Tryz.f197.name, by decide, Tryz.func197.trans (congrArg some (by kernel_rfl))⟩
 f22 := ⟨Tryz.f198.name, by decide, Tryz.func198.trans (congrArg some (by kernel_rfl))⟩
 f23 := ⟨Tryz.f199.name, by decide, Tryz.func199.trans (congrArg some (by kernel_rfl))⟩
 f24 := ⟨Tryz.f200.name, by decide, Tryz.func200.trans (congrArg some (by kernel_rfl))⟩
 f25 := ⟨Tryz.f201.name, by decide, Tryz.func201.trans (congrArg some (by kernel_rfl))⟩
 f26 := ⟨Tryz.f202.name, by decide, Tryz.func202.trans (congrArg some (by kernel_rfl))⟩
 f27 := ⟨Tryz.f203.name, by decide, Tryz.func203.trans (congrArg some (by kernel_rfl))⟩
 f28 := Tryz.func174.trans (congrArg some (by kernel_rfl))
 f29 := Tryz.func175.trans (congrArg some (by kernel_rfl))
 f46 := ⟨Tryz.f229.name, by decide, Tryz.func229.trans (congrArg some (by kernel_rfl))⟩
 f47 := Tryz.func218.trans (congrArg some (by kernel_rfl))
 f48 := Tryz.func219.trans (congrArg some (by kernel_rfl))
 f49 := ⟨Tryz.f230.name, by decide, Tryz.func230.trans (congrArg some (by kernel_rfl))⟩
 f50 := ⟨Tryz.f231.name, by decide, Tryz.func231.trans (congrArg some (by kernel_rfl))⟩
 f57 := ⟨Tryz.f239.name, by decide, Tryz.func239.trans (congrArg some (by kernel_rfl))⟩
 t0 := Tryz.underlying0
 a0 := Tryz.isAgg0
 z0 := Tryz.sizeOf0
 v0 := Tryz.zeroValue0
 t3 := Tryz.underlying3
 a3 := Tryz.isAgg3
 z3 := Tryz.sizeOf3
 v3 := Tryz.zeroValue3
 t4 := Tryz.underlying4
 a4 := Tryz.isAgg4
 z4 := Tryz.sizeOf4
 v4 := Tryz.zeroValue4
 t5 := Tryz.underlying5
 a5 := Tryz.isAgg5
 z5 := Tryz.sizeOf5
 v5 := Tryz.zeroValue5
 t9 := Tryz.underlying9
 a9 := Tryz.isAgg9
 z9 := Tryz.sizeOf9
 v9 := Tryz.zeroValue9
 t22 := Tryz.underlying26
 a22 := Tryz.isAgg26
 z22 := Tryz.sizeOf26
 v22 := Tryz.zeroValue26
 t25 := Tryz.underlying178
 a25 := Tryz.isAgg178
 z25 := Tryz.sizeOf178
 v25 := Tryz.zeroValue178
 t39 := Tryz.underlying205
 a39 := Tryz.isAgg205
 z39 := Tryz.sizeOf205
 v39 := Tryz.zeroValue205
 t45 := Tryz.underlying242
 a45 := Tryz.isAgg242
 z45 := Tryz.sizeOf242
 v45 := Tryz.zeroValue242
 t46 := Tryz.underlying243
 a46 := Tryz.isAgg243
 z46 := Tryz.sizeOf243
 v46 := Tryz.zeroValue243
 t50 := Tryz.underlying247
 a50 := Tryz.isAgg247
 z50 := Tryz.sizeOf247
 v50 := Tryz.zeroValue247
 t53 := Tryz.underlying164
 a53 := Tryz.isAgg164
 z53 := Tryz.sizeOf164
 v53 := Tryz.zeroValue164
 t55 := Tryz.underlying251
 a55 := Tryz.isAgg251
 z55 := Tryz.sizeOf251
 v55 := Tryz.zeroValue251
 t66 := Tryz.underlying277
 a66 := Tryz.isAgg277
 z66 := Tryz.sizeOf277
 v66 := Tryz.zeroValue277
 t70 := Tryz.underlying281
 a70 := Tryz.isAgg281
 z70 := Tryz.sizeOf281
 v70 := Tryz.zeroValue281
 t76 := Tryz.underlying292
 a76 := Tryz.isAgg292
 z76 := Tryz.sizeOf292
 v76 := Tryz.zeroValue292
 t77 := Tryz.underlying52
 a77 := Tryz.isAgg52
 z77 := Tryz.sizeOf52
 v77 := Tryz.zeroValue52 }
end Go.Proofs
