/-
  DERIVED. GIVEN WITH THE SEED: THE CARDS: each row of YtngmpkoobdkeiaaGreatDoorRows.lean that lists a variable, with what it lists TIED to the program's text (the seventh form; the later family's looks); each row that meets fmt, with fmt's text TOLD by the authors' own Lean function (tested against real Go, not proved from fmt's source: count such statements apart). THE CARD IS WHAT COUNTS. Prove the row's statement (the work); the ties are given (YtngmpkoobdkeiaaGreatDoorTie.lean); close each card by the builder's one call (the guide's Derived/Test/ToyasCard.lean, 'card_holds'). Laid BY PROGRAM, IN A SANDBOX (cutbox-door.mjs). By AI agents, Wed Nov 11 2026. No macro, syntax, notation, axiom, sorry.
-/
import Derived.Test.YtngmpkoobdkeiaaGreatDoorRows
import GoSem.ClaimSeven
namespace Go.Proofs.YtngmpkoobdkeiaaGreatDoor
namespace Rows

/-- THE TIED CARD OF 'postillaw04.StemTells'. -/
def stemTellsCard : Claim7 := { stood := { row := stemTellsRow, standIns := [], harness := (true, "5f335bd391ca7e7d2543698d8fc962ef0c04cf0b07af826da194acd46ab89a48"), looks := false }, kinds := [], alts := [], laidByText := true, laidKinds := [.funcs], laidTests := true, laidLooks := .later }
def StemTellsCardSaid : Prop := Claim7.holds Tryz.pinned (.plain (OpenSpec.ofChange stemTellsSpec)) stemTellsCard

/-- THE TIED CARD OF 'postillaw04.StemChanges'. -/
def stemChangesCard : Claim7 := { stood := { row := stemChangesRow, standIns := [], harness := (true, "5f335bd391ca7e7d2543698d8fc962ef0c04cf0b07af826da194acd46ab89a48"), looks := false }, kinds := [], alts := [], laidByText := true, laidKinds := [.funcs], laidTests := true, laidLooks := .later }
def StemChangesCardSaid : Prop := Claim7.holds Tryz.pinned (.plain (OpenSpec.ofChange stemChangesSpec)) stemChangesCard

/-- THE TIED CARD OF 'postillaw04.StemHeads'. -/
def stemHeadsCard : Claim7 := { stood := { row := stemHeadsRow, standIns := [], harness := (true, "5f335bd391ca7e7d2543698d8fc962ef0c04cf0b07af826da194acd46ab89a48"), looks := false }, kinds := [], alts := [], laidByText := true, laidKinds := [.funcs], laidTests := true, laidLooks := .later }
def StemHeadsCardSaid : Prop := Claim7.holds Tryz.pinned (.plain (OpenSpec.ofChange stemHeadsSpec)) stemHeadsCard

/-- THE SECOND FORM's CARD OF 'postillaw04.StemTells'. -/
def stemTellsUptoCard : Claim7 := { stood := { row := stemTellsUptoRow, standIns := [], harness := (true, "5f335bd391ca7e7d2543698d8fc962ef0c04cf0b07af826da194acd46ab89a48"), looks := false }, kinds := [], alts := [], laidByText := true, laidKinds := [.funcs], laidTests := true, laidLooks := .later }
def StemTellsUptoCardSaid : Prop := Claim7.holds Tryz.pinned (.plain (OpenSpec.upto stemTellsSpec)) stemTellsUptoCard

/-- THE SECOND FORM's CARD OF 'postillaw04.StemChanges'. -/
def stemChangesUptoCard : Claim7 := { stood := { row := stemChangesUptoRow, standIns := [], harness := (true, "5f335bd391ca7e7d2543698d8fc962ef0c04cf0b07af826da194acd46ab89a48"), looks := false }, kinds := [], alts := [], laidByText := true, laidKinds := [.funcs], laidTests := true, laidLooks := .later }
def StemChangesUptoCardSaid : Prop := Claim7.holds Tryz.pinned (.plain (OpenSpec.upto stemChangesSpec)) stemChangesUptoCard

/-- THE SECOND FORM's CARD OF 'postillaw04.StemHeads'. -/
def stemHeadsUptoCard : Claim7 := { stood := { row := stemHeadsUptoRow, standIns := [], harness := (true, "5f335bd391ca7e7d2543698d8fc962ef0c04cf0b07af826da194acd46ab89a48"), looks := false }, kinds := [], alts := [], laidByText := true, laidKinds := [.funcs], laidTests := true, laidLooks := .later }
def StemHeadsUptoCardSaid : Prop := Claim7.holds Tryz.pinned (.plain (OpenSpec.upto stemHeadsSpec)) stemHeadsUptoCard
end Rows
end Go.Proofs.YtngmpkoobdkeiaaGreatDoor
