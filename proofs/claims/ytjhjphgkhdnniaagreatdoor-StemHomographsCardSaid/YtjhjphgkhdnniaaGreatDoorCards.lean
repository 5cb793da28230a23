/-
  DERIVED. GIVEN WITH THE SEED: THE CARDS: each row of YtjhjphgkhdnniaaGreatDoorRows.lean that lists a variable, with what it lists TIED to the program's text (the seventh form; the later family's looks); each row that meets fmt, with fmt's text TOLD by the authors' own Lean function (tested against real Go, not proved from fmt's source: count such statements apart). THE CARD IS WHAT COUNTS. Prove the row's statement (the work); the ties are given (YtjhjphgkhdnniaaGreatDoorTie.lean); close each card by the builder's one call (the guide's Derived/Test/ToyasCard.lean, 'card_holds'). Laid BY PROGRAM, IN A SANDBOX (cutbox-door.mjs). By AI agents, Wed Nov 11 2026. No macro, syntax, notation, axiom, sorry.
-/
import Derived.Test.YtjhjphgkhdnniaaGreatDoorRows
import GoSem.ClaimSeven
namespace Go.Proofs.YtjhjphgkhdnniaaGreatDoor
namespace Rows

/-- THE TIED CARD OF 'postillaw04.StemHomographs'. -/
def stemHomographsCard : Claim7 := { stood := { row := stemHomographsRow, standIns := [], harness := (true, "a1097e7e89dd60ca53a5e0df87486acf22046e9e266c12841983b14f3a11e1aa"), looks := false }, kinds := [], alts := [], laidByText := true, laidKinds := [.funcs], laidTests := true, laidLooks := .later }
def StemHomographsCardSaid : Prop := Claim7.holds Tryz.pinned (.plain (OpenSpec.ofChange stemHomographsSpec)) stemHomographsCard

/-- THE TIED CARD OF 'postillaw04.StemCopies'. -/
def stemCopiesCard : Claim7 := { stood := { row := stemCopiesRow, standIns := [], harness := (true, "a1097e7e89dd60ca53a5e0df87486acf22046e9e266c12841983b14f3a11e1aa"), looks := false }, kinds := [], alts := [], laidByText := true, laidKinds := [.funcs, .funcs], laidTests := true, laidLooks := .later }
def StemCopiesCardSaid : Prop := Claim7.holds Tryz.pinned (.plain (OpenSpec.ofChange stemCopiesSpec)) stemCopiesCard

/-- THE SECOND FORM's CARD OF 'postillaw04.StemHomographs'. -/
def stemHomographsUptoCard : Claim7 := { stood := { row := stemHomographsUptoRow, standIns := [], harness := (true, "a1097e7e89dd60ca53a5e0df87486acf22046e9e266c12841983b14f3a11e1aa"), looks := false }, kinds := [], alts := [], laidByText := true, laidKinds := [.funcs], laidTests := true, laidLooks := .later }
def StemHomographsUptoCardSaid : Prop := Claim7.holds Tryz.pinned (.plain (OpenSpec.upto stemHomographsSpec)) stemHomographsUptoCard

/-- THE SECOND FORM's CARD OF 'postillaw04.StemCopies'. -/
def stemCopiesUptoCard : Claim7 := { stood := { row := stemCopiesUptoRow, standIns := [], harness := (true, "a1097e7e89dd60ca53a5e0df87486acf22046e9e266c12841983b14f3a11e1aa"), looks := false }, kinds := [], alts := [], laidByText := true, laidKinds := [.funcs, .funcs], laidTests := true, laidLooks := .later }
def StemCopiesUptoCardSaid : Prop := Claim7.holds Tryz.pinned (.plain (OpenSpec.upto stemCopiesSpec)) stemCopiesUptoCard
end Rows
end Go.Proofs.YtjhjphgkhdnniaaGreatDoor
