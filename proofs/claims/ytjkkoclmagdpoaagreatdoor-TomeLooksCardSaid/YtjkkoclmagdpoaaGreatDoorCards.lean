/-
  DERIVED. GIVEN WITH THE SEED: THE CARDS: each row of YtjkkoclmagdpoaaGreatDoorRows.lean that lists a variable, with what it lists TIED to the program's text (the seventh form; the later family's looks); each row that meets fmt, with fmt's text TOLD by the authors' own Lean function (tested against real Go, not proved from fmt's source: count such statements apart). THE CARD IS WHAT COUNTS. Prove the row's statement (the work); the ties are given (YtjkkoclmagdpoaaGreatDoorTie.lean); close each card by the builder's one call (the guide's Derived/Test/ToyasCard.lean, 'card_holds'). Laid BY PROGRAM, IN A SANDBOX (cutbox-door.mjs). By AI agents, Wed Nov 11 2026. No macro, syntax, notation, axiom, sorry.
-/
import Derived.Test.YtjkkoclmagdpoaaGreatDoorRows
import GoSem.ClaimSeven
namespace Go.Proofs.YtjkkoclmagdpoaaGreatDoor
namespace Rows

/-- THE TIED CARD OF 'postillaw10.TomeMakes'. -/
def tomeMakesCard : Claim7 := { stood := { row := tomeMakesRow, standIns := [], harness := (true, "335200c7b8fac9640e4741ae1285a2a7bd05a0c5deb9c50008af77f75df0fc6f"), looks := false }, kinds := [], alts := [], laidByText := true, laidKinds := [.funcs, .funcs, .funcs], laidTests := true, laidLooks := .later }
def TomeMakesCardSaid : Prop := Claim7.holds Tryz.pinned (.plain (OpenSpec.ofChange tomeMakesSpec)) tomeMakesCard

/-- THE TIED CARD OF 'postillaw10.TomeLooks'. -/
def tomeLooksCard : Claim7 := { stood := { row := tomeLooksRow, standIns := [], harness := (true, "335200c7b8fac9640e4741ae1285a2a7bd05a0c5deb9c50008af77f75df0fc6f"), looks := false }, kinds := [], alts := [], laidByText := true, laidKinds := [.funcs, .funcs, .funcs], laidTests := true, laidLooks := .later }
def TomeLooksCardSaid : Prop := Claim7.holds Tryz.pinned (.plain (OpenSpec.ofChange tomeLooksSpec)) tomeLooksCard

/-- THE SECOND FORM's CARD OF 'postillaw10.TomeMakes'. -/
def tomeMakesUptoCard : Claim7 := { stood := { row := tomeMakesUptoRow, standIns := [], harness := (true, "335200c7b8fac9640e4741ae1285a2a7bd05a0c5deb9c50008af77f75df0fc6f"), looks := false }, kinds := [], alts := [], laidByText := true, laidKinds := [.funcs, .funcs, .funcs], laidTests := true, laidLooks := .later }
def TomeMakesUptoCardSaid : Prop := Claim7.holds Tryz.pinned (.plain (OpenSpec.upto tomeMakesSpec)) tomeMakesUptoCard

/-- THE SECOND FORM's CARD OF 'postillaw10.TomeLooks'. -/
def tomeLooksUptoCard : Claim7 := { stood := { row := tomeLooksUptoRow, standIns := [], harness := (true, "335200c7b8fac9640e4741ae1285a2a7bd05a0c5deb9c50008af77f75df0fc6f"), looks := false }, kinds := [], alts := [], laidByText := true, laidKinds := [.funcs, .funcs, .funcs], laidTests := true, laidLooks := .later }
def TomeLooksUptoCardSaid : Prop := Claim7.holds Tryz.pinned (.plain (OpenSpec.upto tomeLooksSpec)) tomeLooksUptoCard
end Rows
end Go.Proofs.YtjkkoclmagdpoaaGreatDoor
