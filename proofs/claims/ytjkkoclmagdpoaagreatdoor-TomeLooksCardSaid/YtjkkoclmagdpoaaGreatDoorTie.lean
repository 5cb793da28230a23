/-
  DERIVED. GIVEN WITH THE SEED: THE PROGRAM's TIES (one call each: nine closed facts by the kernel) AND EACH ROW's TIE, after the 31st guide's Derived/Test/Toyas{Tie, Card}.lean. No idea stands in it: it is a product of the set-up. Laid BY PROGRAM, IN A SANDBOX (cutbox-door.mjs). By AI agents, Wed Nov 11 2026. No macro, syntax, notation, axiom, sorry.
-/
import Derived.Test.YtjkkoclmagdpoaaGreatDoorRows
import Derived.LaidByTextLater
import Derived.SevenTiedAt
import Derived.LaidSub
import Derived.LaidOnce
namespace Go.Proofs.YtjkkoclmagdpoaaGreatDoor
open Go
set_option maxRecDepth 100000
theorem seatTie1 : Tryz.prog.laidByTextLater [("postil/leaf.kinds", Rows.laid_postil_leaf_kinds), ("postil/chart.checks", Rows.laid_postil_chart_checks), ("postil/stem.kinds", Rows.laid_postil_stem_kinds)] [.funcs, .funcs, .funcs] true :=
  Program.laidByTextLater_by_one 34 8 2 (by kernel_rfl) (by kernel_rfl) (by kernel_rfl) (by kernel_rfl) (by kernel_rfl) (by kernel_rfl) (fun _ _ => by kernel_rfl)
theorem noOwnUnsafe : Tryz.pinned.checked.prog.headLifts.contains "ownunsafe" = false := by kernel_rfl
theorem tie : Tryz.prog.laidByTextLater [("postil/leaf.kinds", Rows.laid_postil_leaf_kinds), ("postil/chart.checks", Rows.laid_postil_chart_checks), ("postil/stem.kinds", Rows.laid_postil_stem_kinds)] [.funcs, .funcs, .funcs] true :=
  Program.laidByTextLater.sub seatTie1 ["postil/leaf.kinds", "postil/chart.checks", "postil/stem.kinds"] (by kernel_rfl) (by kernel_rfl)
theorem tomeMakes_row_tie : Rows.tomeMakesRow.laidByTextAt .later Tryz.pinned [.funcs, .funcs, .funcs] true :=
  OpenClaim.laidByTextAt_later rfl rfl tie noOwnUnsafe
theorem tomeLooks_row_tie : Rows.tomeLooksRow.laidByTextAt .later Tryz.pinned [.funcs, .funcs, .funcs] true :=
  OpenClaim.laidByTextAt_later rfl rfl tie noOwnUnsafe
theorem tomeMakesUpto_row_tie : Rows.tomeMakesUptoRow.laidByTextAt .later Tryz.pinned [.funcs, .funcs, .funcs] true :=
  OpenClaim.laidByTextAt_later rfl rfl tie noOwnUnsafe
theorem tomeLooksUpto_row_tie : Rows.tomeLooksUptoRow.laidByTextAt .later Tryz.pinned [.funcs, .funcs, .funcs] true :=
  OpenClaim.laidByTextAt_later rfl rfl tie noOwnUnsafe
end Go.Proofs.YtjkkoclmagdpoaaGreatDoor
