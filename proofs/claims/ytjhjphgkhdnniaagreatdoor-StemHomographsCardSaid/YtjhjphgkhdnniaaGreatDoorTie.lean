/-
  DERIVED. GIVEN WITH THE SEED: THE PROGRAM's TIES (one call each: nine closed facts by the kernel) AND EACH ROW's TIE, after the 31st guide's Derived/Test/Toyas{Tie, Card}.lean. No idea stands in it: it is a product of the set-up. Laid BY PROGRAM, IN A SANDBOX (cutbox-door.mjs). By AI agents, Wed Nov 11 2026. No macro, syntax, notation, axiom, sorry.
-/
import Derived.Test.YtjhjphgkhdnniaaGreatDoorRows
import Derived.LaidByTextLater
import Derived.SevenTiedAt
import Derived.LaidSub
import Derived.LaidOnce
namespace Go.Proofs.YtjhjphgkhdnniaaGreatDoor
open Go
set_option maxRecDepth 100000
theorem seatTie1 : Tryz.prog.laidByTextLater [("postil/leaf.kinds", Rows.laid_postil_leaf_kinds), ("postil/stem.kinds", Rows.laid_postil_stem_kinds)] [.funcs, .funcs] true :=
  Program.laidByTextLater_by_one 26 8 2 (by kernel_rfl) (by kernel_rfl) (by kernel_rfl) (by kernel_rfl) (by kernel_rfl) (by kernel_rfl) (fun _ _ => by kernel_rfl)
theorem noOwnUnsafe : Tryz.pinned.checked.prog.headLifts.contains "ownunsafe" = false := by kernel_rfl
theorem tie : Tryz.prog.laidByTextLater [("postil/stem.kinds", Rows.laid_postil_stem_kinds)] [.funcs] true :=
  Program.laidByTextLater.sub seatTie1 ["postil/stem.kinds"] (by kernel_rfl) (by kernel_rfl)
theorem stemHomographs_row_tie : Rows.stemHomographsRow.laidByTextAt .later Tryz.pinned [.funcs] true :=
  OpenClaim.laidByTextAt_later rfl rfl tie noOwnUnsafe
theorem tie2 : Tryz.prog.laidByTextLater [("postil/leaf.kinds", Rows.laid_postil_leaf_kinds), ("postil/stem.kinds", Rows.laid_postil_stem_kinds)] [.funcs, .funcs] true :=
  Program.laidByTextLater.sub seatTie1 ["postil/leaf.kinds", "postil/stem.kinds"] (by kernel_rfl) (by kernel_rfl)
theorem stemCopies_row_tie : Rows.stemCopiesRow.laidByTextAt .later Tryz.pinned [.funcs, .funcs] true :=
  OpenClaim.laidByTextAt_later rfl rfl tie2 noOwnUnsafe
theorem stemHomographsUpto_row_tie : Rows.stemHomographsUptoRow.laidByTextAt .later Tryz.pinned [.funcs] true :=
  OpenClaim.laidByTextAt_later rfl rfl tie noOwnUnsafe
theorem stemCopiesUpto_row_tie : Rows.stemCopiesUptoRow.laidByTextAt .later Tryz.pinned [.funcs, .funcs] true :=
  OpenClaim.laidByTextAt_later rfl rfl tie2 noOwnUnsafe
end Go.Proofs.YtjhjphgkhdnniaaGreatDoor
