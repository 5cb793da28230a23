/-
  DERIVED. GIVEN WITH THE SEED: THE CARDS: each row of YtfeechoaiiohhaaGreatDoorRows.lean that lists a variable, with what it lists TIED to the program's text (the seventh form; the later family's looks); each row that meets fmt, with fmt's text TOLD by the authors' own Lean function (tested against real Go, not proved from fmt's source: count such statements apart). THE CARD IS WHAT COUNTS. Prove the row's statement (the work); the ties are given (YtfeechoaiiohhaaGreatDoorTie.lean); close each card by the builder's one call (the guide's Derived/Test/ToyasCard.lean, 'card_holds'). Laid BY PROGRAM, IN A SANDBOX (cutbox-door.mjs). By AI agents, Wed Nov 11 2026. No macro, syntax, notation, axiom, sorry.
-/
import Derived.Test.YtfeechoaiiohhaaGreatDoorRows
import GoSem.ClaimSeven
namespace Go.Proofs.YtfeechoaiiohhaaGreatDoor
namespace Rows

/-- THE TIED CARD OF 'postillaw07.VoteTells'. -/
def voteTellsCard : Claim7 := { stood := { row := voteTellsRow, standIns := [], harness := (true, "6be5eb38efb3fa13672cc9d2940ac1db9c0506af2de2835cbbf791214d283cde"), looks := false }, kinds := [], alts := [], laidByText := true, laidKinds := [.funcs, .funcs], laidTests := true, laidLooks := .later }
def VoteTellsCardSaid : Prop := Claim7.holds Tryz.pinned (.plain (OpenSpec.ofChange voteTellsSpec)) voteTellsCard

/-- THE TIED CARD OF 'postillaw07.VoteCounts'. -/
def voteCountsCard : Claim7 := { stood := { row := voteCountsRow, standIns := [], harness := (true, "6be5eb38efb3fa13672cc9d2940ac1db9c0506af2de2835cbbf791214d283cde"), looks := false }, kinds := [], alts := [], laidByText := true, laidKinds := [.funcs, .funcs], laidTests := true, laidLooks := .later }
def VoteCountsCardSaid : Prop := Claim7.holds Tryz.pinned (.plain (OpenSpec.ofChange voteCountsSpec)) voteCountsCard

/-- THE TIED CARD OF 'postillaw07.VoteDecides'. -/
def voteDecidesCard : Claim7 := { stood := { row := voteDecidesRow, standIns := [], harness := (true, "6be5eb38efb3fa13672cc9d2940ac1db9c0506af2de2835cbbf791214d283cde"), looks := false }, kinds := [], alts := [], laidByText := true, laidKinds := [.funcs, .funcs], laidTests := true, laidLooks := .later }
def VoteDecidesCardSaid : Prop := Claim7.holds Tryz.pinned (.plain (OpenSpec.ofChange voteDecidesSpec)) voteDecidesCard

/-- THE SECOND FORM's CARD OF 'postillaw07.VoteTells'. -/
def voteTellsUptoCard : Claim7 := { stood := { row := voteTellsUptoRow, standIns := [], harness := (true, "6be5eb38efb3fa13672cc9d2940ac1db9c0506af2de2835cbbf791214d283cde"), looks := false }, kinds := [], alts := [], laidByText := true, laidKinds := [.funcs, .funcs], laidTests := true, laidLooks := .later }
def VoteTellsUptoCardSaid : Prop := Claim7.holds Tryz.pinned (.plain (OpenSpec.upto voteTellsSpec)) voteTellsUptoCard

/-- THE SECOND FORM's CARD OF 'postillaw07.VoteCounts'. -/
def voteCountsUptoCard : Claim7 := { stood := { row := voteCountsUptoRow, standIns := [], harness := (true, "6be5eb38efb3fa13672cc9d2940ac1db9c0506af2de2835cbbf791214d283cde"), looks := false }, kinds := [], alts := [], laidByText := true, laidKinds := [.funcs, .funcs], laidTests := true, laidLooks := .later }
def VoteCountsUptoCardSaid : Prop := Claim7.holds Tryz.pinned (.plain (OpenSpec.upto voteCountsSpec)) voteCountsUptoCard

/-- THE SECOND FORM's CARD OF 'postillaw07.VoteDecides'. -/
def voteDecidesUptoCard : Claim7 := { stood := { row := voteDecidesUptoRow, standIns := [], harness := (true, "6be5eb38efb3fa13672cc9d2940ac1db9c0506af2de2835cbbf791214d283cde"), looks := false }, kinds := [], alts := [], laidByText := true, laidKinds := [.funcs, .funcs], laidTests := true, laidLooks := .later }
def VoteDecidesUptoCardSaid : Prop := Claim7.holds Tryz.pinned (.plain (OpenSpec.upto voteDecidesSpec)) voteDecidesUptoCard
end Rows
end Go.Proofs.YtfeechoaiiohhaaGreatDoor
