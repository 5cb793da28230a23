/-
  DERIVED. GIVEN WITH THE SEED: THE CARDS: each row of YtfpiiheehdedmaaGreatDoorRows.lean that lists a variable, with what it lists TIED to the program's text (the seventh form; the later family's looks); each row that meets fmt, with fmt's text TOLD by the authors' own Lean function (tested against real Go, not proved from fmt's source: count such statements apart). THE CARD IS WHAT COUNTS. Prove the row's statement (the work); the ties are given (YtfpiiheehdedmaaGreatDoorTie.lean); close each card by the builder's one call (the guide's Derived/Test/ToyasCard.lean, 'card_holds'). Laid BY PROGRAM, IN A SANDBOX (cutbox-door.mjs). By AI agents, Wed Nov 11 2026. No macro, syntax, notation, axiom, sorry.
-/
import Derived.Test.YtfpiiheehdedmaaGreatDoorRows
import GoSem.ClaimSeven
namespace Go.Proofs.YtfpiiheehdedmaaGreatDoor
namespace Rows

/-- THE TIED CARD OF 'postillaw07.VoteTells'. -/
def voteTellsCard : Claim7 := { stood := { row := voteTellsRow, standIns := [], harness := (true, "b5e1de04543a3eaba2bbae81990a7ed4e7e13a25696e6e45a5ee172a5c325829"), looks := false }, kinds := [], alts := [], laidByText := true, laidKinds := [.funcs, .funcs], laidTests := true, laidLooks := .later }
def VoteTellsCardSaid : Prop := Claim7.holds Tryz.pinned (.plain (OpenSpec.ofChange voteTellsSpec)) voteTellsCard

/-- THE TIED CARD OF 'postillaw07.VoteDecides'. -/
def voteDecidesCard : Claim7 := { stood := { row := voteDecidesRow, standIns := [], harness := (true, "b5e1de04543a3eaba2bbae81990a7ed4e7e13a25696e6e45a5ee172a5c325829"), looks := false }, kinds := [], alts := [], laidByText := true, laidKinds := [.funcs, .funcs], laidTests := true, laidLooks := .later }
def VoteDecidesCardSaid : Prop := Claim7.holds Tryz.pinned (.plain (OpenSpec.ofChange voteDecidesSpec)) voteDecidesCard

/-- THE TIED CARD OF 'postillaw07.VoteExamples'. -/
def voteExamplesCard : Claim7 := { stood := { row := voteExamplesRow, standIns := [], harness := (true, "b5e1de04543a3eaba2bbae81990a7ed4e7e13a25696e6e45a5ee172a5c325829"), looks := false }, kinds := [], alts := [], laidByText := true, laidKinds := [.funcs, .funcs], laidTests := true, laidLooks := .later }
def VoteExamplesCardSaid : Prop := Claim7.holds Tryz.pinned (.plain (OpenSpec.ofChange voteExamplesSpec)) voteExamplesCard

/-- THE TIED CARD OF 'postillaw07.VoteTrue'. -/
def voteTrueCard : Claim7 := { stood := { row := voteTrueRow, standIns := [], harness := (true, "b5e1de04543a3eaba2bbae81990a7ed4e7e13a25696e6e45a5ee172a5c325829"), looks := false }, kinds := [], alts := [], laidByText := true, laidKinds := [.funcs, .funcs], laidTests := true, laidLooks := .later }
def VoteTrueCardSaid : Prop := Claim7.holds Tryz.pinned (.plain (OpenSpec.ofChange voteTrueSpec)) voteTrueCard

/-- THE TIED CARD OF 'postillaw07.VoteEnds'. -/
def voteEndsCard : Claim7 := { stood := { row := voteEndsRow, standIns := [], harness := (true, "b5e1de04543a3eaba2bbae81990a7ed4e7e13a25696e6e45a5ee172a5c325829"), looks := false }, kinds := [], alts := [], laidByText := true, laidKinds := [.funcs, .funcs], laidTests := true, laidLooks := .later }
def VoteEndsCardSaid : Prop := Claim7.holds Tryz.pinned (.plain (OpenSpec.ofChange voteEndsSpec)) voteEndsCard

/-- THE TIED CARD OF 'postillaw07.VoteMore'. -/
def voteMoreCard : Claim7 := { stood := { row := voteMoreRow, standIns := [], harness := (true, "b5e1de04543a3eaba2bbae81990a7ed4e7e13a25696e6e45a5ee172a5c325829"), looks := false }, kinds := [], alts := [], laidByText := true, laidKinds := [.funcs, .funcs], laidTests := true, laidLooks := .later }
def VoteMoreCardSaid : Prop := Claim7.holds Tryz.pinned (.plain (OpenSpec.ofChange voteMoreSpec)) voteMoreCard

/-- THE TIED CARD OF 'postillaw07.VoteAsk'. -/
def voteAskCard : Claim7 := { stood := { row := voteAskRow, standIns := [], harness := (true, "b5e1de04543a3eaba2bbae81990a7ed4e7e13a25696e6e45a5ee172a5c325829"), looks := false }, kinds := [], alts := [], laidByText := true, laidKinds := [.funcs, .funcs], laidTests := true, laidLooks := .later }
def VoteAskCardSaid : Prop := Claim7.holds Tryz.pinned (.plain (OpenSpec.ofChange voteAskSpec)) voteAskCard

/-- THE TIED CARD OF 'postillaw07.VoteNext'. -/
def voteNextCard : Claim7 := { stood := { row := voteNextRow, standIns := [], harness := (true, "b5e1de04543a3eaba2bbae81990a7ed4e7e13a25696e6e45a5ee172a5c325829"), looks := false }, kinds := [], alts := [], laidByText := true, laidKinds := [.funcs, .funcs], laidTests := true, laidLooks := .later }
def VoteNextCardSaid : Prop := Claim7.holds Tryz.pinned (.plain (OpenSpec.ofChange voteNextSpec)) voteNextCard

/-- THE TIED CARD OF 'postillaw07.VoteSure'. -/
def voteSureCard : Claim7 := { stood := { row := voteSureRow, standIns := [], harness := (true, "b5e1de04543a3eaba2bbae81990a7ed4e7e13a25696e6e45a5ee172a5c325829"), looks := false }, kinds := [], alts := [], laidByText := true, laidKinds := [.funcs, .funcs], laidTests := true, laidLooks := .later }
def VoteSureCardSaid : Prop := Claim7.holds Tryz.pinned (.plain (OpenSpec.ofChange voteSureSpec)) voteSureCard

/-- THE TIED CARD OF 'postillaw07.VoteOrder'. -/
def voteOrderCard : Claim7 := { stood := { row := voteOrderRow, standIns := [], harness := (true, "b5e1de04543a3eaba2bbae81990a7ed4e7e13a25696e6e45a5ee172a5c325829"), looks := false }, kinds := [], alts := [], laidByText := true, laidKinds := [.funcs, .funcs], laidTests := true, laidLooks := .later }
def VoteOrderCardSaid : Prop := Claim7.holds Tryz.pinned (.plain (OpenSpec.ofChange voteOrderSpec)) voteOrderCard

/-- THE TIED CARD OF 'postillaw07.VoteWrongs'. -/
def voteWrongsCard : Claim7 := { stood := { row := voteWrongsRow, standIns := [], harness := (true, "b5e1de04543a3eaba2bbae81990a7ed4e7e13a25696e6e45a5ee172a5c325829"), looks := false }, kinds := [], alts := [], laidByText := true, laidKinds := [.funcs, .funcs], laidTests := true, laidLooks := .later }
def VoteWrongsCardSaid : Prop := Claim7.holds Tryz.pinned (.plain (OpenSpec.ofChange voteWrongsSpec)) voteWrongsCard

/-- THE TIED CARD OF 'postillaw07.VoteTally'. -/
def voteTallyCard : Claim7 := { stood := { row := voteTallyRow, standIns := [], harness := (true, "b5e1de04543a3eaba2bbae81990a7ed4e7e13a25696e6e45a5ee172a5c325829"), looks := false }, kinds := [], alts := [], laidByText := true, laidKinds := [.funcs, .funcs], laidTests := true, laidLooks := .later }
def VoteTallyCardSaid : Prop := Claim7.holds Tryz.pinned (.plain (OpenSpec.ofChange voteTallySpec)) voteTallyCard

/-- THE SECOND FORM's CARD OF 'postillaw07.VoteTells'. -/
def voteTellsUptoCard : Claim7 := { stood := { row := voteTellsUptoRow, standIns := [], harness := (true, "b5e1de04543a3eaba2bbae81990a7ed4e7e13a25696e6e45a5ee172a5c325829"), looks := false }, kinds := [], alts := [], laidByText := true, laidKinds := [.funcs, .funcs], laidTests := true, laidLooks := .later }
def VoteTellsUptoCardSaid : Prop := Claim7.holds Tryz.pinned (.plain (OpenSpec.upto voteTellsSpec)) voteTellsUptoCard

/-- THE SECOND FORM's CARD OF 'postillaw07.VoteDecides'. -/
def voteDecidesUptoCard : Claim7 := { stood := { row := voteDecidesUptoRow, standIns := [], harness := (true, "b5e1de04543a3eaba2bbae81990a7ed4e7e13a25696e6e45a5ee172a5c325829"), looks := false }, kinds := [], alts := [], laidByText := true, laidKinds := [.funcs, .funcs], laidTests := true, laidLooks := .later }
def VoteDecidesUptoCardSaid : Prop := Claim7.holds Tryz.pinned (.plain (OpenSpec.upto voteDecidesSpec)) voteDecidesUptoCard

/-- THE SECOND FORM's CARD OF 'postillaw07.VoteExamples'. -/
def voteExamplesUptoCard : Claim7 := { stood := { row := voteExamplesUptoRow, standIns := [], harness := (true, "b5e1de04543a3eaba2bbae81990a7ed4e7e13a25696e6e45a5ee172a5c325829"), looks := false }, kinds := [], alts := [], laidByText := true, laidKinds := [.funcs, .funcs], laidTests := true, laidLooks := .later }
def VoteExamplesUptoCardSaid : Prop := Claim7.holds Tryz.pinned (.plain (OpenSpec.upto voteExamplesSpec)) voteExamplesUptoCard

/-- THE SECOND FORM's CARD OF 'postillaw07.VoteTrue'. -/
def voteTrueUptoCard : Claim7 := { stood := { row := voteTrueUptoRow, standIns := [], harness := (true, "b5e1de04543a3eaba2bbae81990a7ed4e7e13a25696e6e45a5ee172a5c325829"), looks := false }, kinds := [], alts := [], laidByText := true, laidKinds := [.funcs, .funcs], laidTests := true, laidLooks := .later }
def VoteTrueUptoCardSaid : Prop := Claim7.holds Tryz.pinned (.plain (OpenSpec.upto voteTrueSpec)) voteTrueUptoCard

/-- THE SECOND FORM's CARD OF 'postillaw07.VoteEnds'. -/
def voteEndsUptoCard : Claim7 := { stood := { row := voteEndsUptoRow, standIns := [], harness := (true, "b5e1de04543a3eaba2bbae81990a7ed4e7e13a25696e6e45a5ee172a5c325829"), looks := false }, kinds := [], alts := [], laidByText := true, laidKinds := [.funcs, .funcs], laidTests := true, laidLooks := .later }
def VoteEndsUptoCardSaid : Prop := Claim7.holds Tryz.pinned (.plain (OpenSpec.upto voteEndsSpec)) voteEndsUptoCard

/-- THE SECOND FORM's CARD OF 'postillaw07.VoteMore'. -/
def voteMoreUptoCard : Claim7 := { stood := { row := voteMoreUptoRow, standIns := [], harness := (true, "b5e1de04543a3eaba2bbae81990a7ed4e7e13a25696e6e45a5ee172a5c325829"), looks := false }, kinds := [], alts := [], laidByText := true, laidKinds := [.funcs, .funcs], laidTests := true, laidLooks := .later }
def VoteMoreUptoCardSaid : Prop := Claim7.holds Tryz.pinned (.plain (OpenSpec.upto voteMoreSpec)) voteMoreUptoCard

/-- THE SECOND FORM's CARD OF 'postillaw07.VoteAsk'. -/
def voteAskUptoCard : Claim7 := { stood := { row := voteAskUptoRow, standIns := [], harness := (true, "b5e1de04543a3eaba2bbae81990a7ed4e7e13a25696e6e45a5ee172a5c325829"), looks := false }, kinds := [], alts := [], laidByText := true, laidKinds := [.funcs, .funcs], laidTests := true, laidLooks := .later }
def VoteAskUptoCardSaid : Prop := Claim7.holds Tryz.pinned (.plain (OpenSpec.upto voteAskSpec)) voteAskUptoCard

/-- THE SECOND FORM's CARD OF 'postillaw07.VoteNext'. -/
def voteNextUptoCard : Claim7 := { stood := { row := voteNextUptoRow, standIns := [], harness := (true, "b5e1de04543a3eaba2bbae81990a7ed4e7e13a25696e6e45a5ee172a5c325829"), looks := false }, kinds := [], alts := [], laidByText := true, laidKinds := [.funcs, .funcs], laidTests := true, laidLooks := .later }
def VoteNextUptoCardSaid : Prop := Claim7.holds Tryz.pinned (.plain (OpenSpec.upto voteNextSpec)) voteNextUptoCard

/-- THE SECOND FORM's CARD OF 'postillaw07.VoteSure'. -/
def voteSureUptoCard : Claim7 := { stood := { row := voteSureUptoRow, standIns := [], harness := (true, "b5e1de04543a3eaba2bbae81990a7ed4e7e13a25696e6e45a5ee172a5c325829"), looks := false }, kinds := [], alts := [], laidByText := true, laidKinds := [.funcs, .funcs], laidTests := true, laidLooks := .later }
def VoteSureUptoCardSaid : Prop := Claim7.holds Tryz.pinned (.plain (OpenSpec.upto voteSureSpec)) voteSureUptoCard

/-- THE SECOND FORM's CARD OF 'postillaw07.VoteOrder'. -/
def voteOrderUptoCard : Claim7 := { stood := { row := voteOrderUptoRow, standIns := [], harness := (true, "b5e1de04543a3eaba2bbae81990a7ed4e7e13a25696e6e45a5ee172a5c325829"), looks := false }, kinds := [], alts := [], laidByText := true, laidKinds := [.funcs, .funcs], laidTests := true, laidLooks := .later }
def VoteOrderUptoCardSaid : Prop := Claim7.holds Tryz.pinned (.plain (OpenSpec.upto voteOrderSpec)) voteOrderUptoCard

/-- THE SECOND FORM's CARD OF 'postillaw07.VoteWrongs'. -/
def voteWrongsUptoCard : Claim7 := { stood := { row := voteWrongsUptoRow, standIns := [], harness := (true, "b5e1de04543a3eaba2bbae81990a7ed4e7e13a25696e6e45a5ee172a5c325829"), looks := false }, kinds := [], alts := [], laidByText := true, laidKinds := [.funcs, .funcs], laidTests := true, laidLooks := .later }
def VoteWrongsUptoCardSaid : Prop := Claim7.holds Tryz.pinned (.plain (OpenSpec.upto voteWrongsSpec)) voteWrongsUptoCard

/-- THE SECOND FORM's CARD OF 'postillaw07.VoteTally'. -/
def voteTallyUptoCard : Claim7 := { stood := { row := voteTallyUptoRow, standIns := [], harness := (true, "b5e1de04543a3eaba2bbae81990a7ed4e7e13a25696e6e45a5ee172a5c325829"), looks := false }, kinds := [], alts := [], laidByText := true, laidKinds := [.funcs, .funcs], laidTests := true, laidLooks := .later }
def VoteTallyUptoCardSaid : Prop := Claim7.holds Tryz.pinned (.plain (OpenSpec.upto voteTallySpec)) voteTallyUptoCard
end Rows
end Go.Proofs.YtfpiiheehdedmaaGreatDoor
