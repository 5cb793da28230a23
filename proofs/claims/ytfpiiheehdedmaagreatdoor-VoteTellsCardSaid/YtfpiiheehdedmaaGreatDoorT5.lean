/- A PART OF THE PROOF: contracts of functions, each walked once (much of it printed by a program of the author's own). -/
import Derived.Shelf.SlSortCmp.NoneTotal
import Derived.Shelf.Small.Bits
import Derived.Shelf.Small.Wraps
import Derived.Shelf.Strconv.Itoa0
import Derived.Shelf.Sort.Plain
import Derived.Shelf.Strings.Prefix
import Derived.Ground.Names2Prog
import Derived.Shelf.Slices.CompactI
import Derived.Shelf.Slices.CompactS
import Derived.Shelf.Slices.SearchI
import Derived.Shelf.Slices.Cells
import Derived.Shelf.Slices.In.SortNone
import Derived.Test.YtfpiiheehdedmaaGreatDoorProg
set_option linter.unusedSimpArgs false
set_option linter.unusedVariables false
namespace Go.Proofs
open Go.Shelf
def Tryz.sort_api_Decision_ren : Go.Shelf.Ren := ⟨fun | 6 => 111 | 15 => 130 | 14 => 151 | 28 => 174 | 29 => 175 | 20 => 196 | 21 => 197 | 22 => 198 | 23 => 199 | 24 => 200 | 25 => 201 | 26 => 202 | 27 => 203 | 46 => 229 | 47 => 218 | 48 => 219 | 49 => 230 | 50 => 231 | 57 => 239 | n => n, fun | 22 => 26 | 24 => 74 | 25 => 178 | 3 => 3 | 39 => 205 | 0 => 0 | 53 => 164 | 55 => 251 | 4 => 4 | 46 => 243 | 45 => 242 | 50 => 247 | 5 => 5 | 9 => 9 | 66 => 277 | 70 => 281 | 76 => 292 | 77 => 52 | n => n, fun | n => n⟩
end Go.Proofs
