/-
  DERIVED. GIVEN WITH THE SEED: THE CARDS: each row of YtjdbapoodefncaaGreatDoorRows.lean that lists a variable, with what it lists TIED to the program's text (the seventh form; the later family's looks); each row that meets fmt, with fmt's text TOLD by the authors' own Lean function (tested against real Go, not proved from fmt's source: count such statements apart). THE CARD IS WHAT COUNTS. Prove the row's statement (the work); the ties are given (YtjdbapoodefncaaGreatDoorTie.lean); close each card by the builder's one call (the guide's Derived/Test/ToyasCard.lean, 'card_holds'). Laid BY PROGRAM, IN A SANDBOX (cutbox-door.mjs). By AI agents, Wed Nov 11 2026. No macro, syntax, notation, axiom, sorry.
-/
import Derived.Test.YtjdbapoodefncaaGreatDoorRows
import GoSem.ClaimSeven
namespace Go.Proofs.YtjdbapoodefncaaGreatDoor
namespace Rows

/-- THE TIED CARD OF 'postillaw07.VoteExamples'. -/
def voteExamplesCard : Claim7 := { stood := { row := voteExamplesRow, standIns := [], harness := (true, "000ad7908c604e6c37cd17f95f645d81195a477fe851816e0d8bd7f6aec384be"), looks := false }, kinds := [], alts := [], laidByText := true, laidKinds := [.funcs, .funcs], laidTests := true, laidLooks := .later }
def VoteExamplesCardSaid : Prop := Claim7.holds Tryz.pinned (.plain (OpenSpec.ofChange voteExamplesSpec)) voteExamplesCard

/-- THE TIED CARD OF 'postillaw07.VoteTrue'. -/
def voteTrueCard : Claim7 := { stood := { row := voteTrueRow, standIns := [], harness := (true, "000ad7908c604e6c37cd17f95f645d81195a477fe851816e0d8bd7f6aec384be"), looks := false }, kinds := [], alts := [], laidByText := true, laidKinds := [.funcs, .funcs], laidTests := true, laidLooks := .later }
def VoteTrueCardSaid : Prop := Claim7.holds Tryz.pinned (.plain (OpenSpec.ofChange voteTrueSpec)) voteTrueCard

/-- THE TIED CARD OF 'postillaw07.VoteAsk'. -/
def voteAskCard : Claim7 := { stood := { row := voteAskRow, standIns := [], harness := (true, "000ad7908c604e6c37cd17f95f645d81195a477fe851816e0d8bd7f6aec384be"), looks := false }, kinds := [], alts := [], laidByText := true, laidKinds := [.funcs, .funcs], laidTests := true, laidLooks := .later }
def VoteAskCardSaid : Prop := Claim7.holds Tryz.pinned (.plain (OpenSpec.ofChange voteAskSpec)) voteAskCard

/-- THE TIED CARD OF 'postillaw07.VoteNext'. -/
def voteNextCard : Claim7 := { stood := { row := voteNextRow, standIns := [], harness := (true, "000ad7908c604e6c37cd17f95f645d81195a477fe851816e0d8bd7f6aec384be"), looks := false }, kinds := [], alts := [], laidByText := true, laidKinds := [.funcs, .funcs], laidTests := true, laidLooks := .later }
def VoteNextCardSaid : Prop := Claim7.holds Tryz.pinned (.plain (OpenSpec.ofChange voteNextSpec)) voteNextCard

/-- THE TIED CARD OF 'postillaw07.VoteMoot'. -/
def voteMootCard : Claim7 := { stood := { row := voteMootRow, standIns := [], harness := (true, "000ad7908c604e6c37cd17f95f645d81195a477fe851816e0d8bd7f6aec384be"), looks := false }, kinds := [], alts := [], laidByText := true, laidKinds := [.funcs, .funcs], laidTests := true, laidLooks := .later }
def VoteMootCardSaid : Prop := Claim7.holds Tryz.pinned (.plain (OpenSpec.ofChange voteMootSpec)) voteMootCard

/-- THE TIED CARD OF 'postillaw07.VoteUnder'. -/
def voteUnderCard : Claim7 := { stood := { row := voteUnderRow, standIns := [], harness := (true, "000ad7908c604e6c37cd17f95f645d81195a477fe851816e0d8bd7f6aec384be"), looks := false }, kinds := [], alts := [], laidByText := true, laidKinds := [.funcs, .funcs], laidTests := true, laidLooks := .later }
def VoteUnderCardSaid : Prop := Claim7.holds Tryz.pinned (.plain (OpenSpec.ofChange voteUnderSpec)) voteUnderCard

/-- THE TIED CARD OF 'postillaw07.VoteFollow'. -/
def voteFollowCard : Claim7 := { stood := { row := voteFollowRow, standIns := [], harness := (true, "000ad7908c604e6c37cd17f95f645d81195a477fe851816e0d8bd7f6aec384be"), looks := false }, kinds := [], alts := [], laidByText := true, laidKinds := [.funcs, .funcs], laidTests := true, laidLooks := .later }
def VoteFollowCardSaid : Prop := Claim7.holds Tryz.pinned (.plain (OpenSpec.ofChange voteFollowSpec)) voteFollowCard

/-- THE SECOND FORM's CARD OF 'postillaw07.VoteExamples'. -/
def voteExamplesUptoCard : Claim7 := { stood := { row := voteExamplesUptoRow, standIns := [], harness := (true, "000ad7908c604e6c37cd17f95f645d81195a477fe851816e0d8bd7f6aec384be"), looks := false }, kinds := [], alts := [], laidByText := true, laidKinds := [.funcs, .funcs], laidTests := true, laidLooks := .later }
def VoteExamplesUptoCardSaid : Prop := Claim7.holds Tryz.pinned (.plain (OpenSpec.upto voteExamplesSpec)) voteExamplesUptoCard

/-- THE SECOND FORM's CARD OF 'postillaw07.VoteTrue'. -/
def voteTrueUptoCard : Claim7 := { stood := { row := voteTrueUptoRow, standIns := [], harness := (true, "000ad7908c604e6c37cd17f95f645d81195a477fe851816e0d8bd7f6aec384be"), looks := false }, kinds := [], alts := [], laidByText := true, laidKinds := [.funcs, .funcs], laidTests := true, laidLooks := .later }
def VoteTrueUptoCardSaid : Prop := Claim7.holds Tryz.pinned (.plain (OpenSpec.upto voteTrueSpec)) voteTrueUptoCard

/-- THE SECOND FORM's CARD OF 'postillaw07.VoteAsk'. -/
def voteAskUptoCard : Claim7 := { stood := { row := voteAskUptoRow, standIns := [], harness := (true, "000ad7908c604e6c37cd17f95f645d81195a477fe851816e0d8bd7f6aec384be"), looks := false }, kinds := [], alts := [], laidByText := true, laidKinds := [.funcs, .funcs], laidTests := true, laidLooks := .later }
def VoteAskUptoCardSaid : Prop := Claim7.holds Tryz.pinned (.plain (OpenSpec.upto voteAskSpec)) voteAskUptoCard

/-- THE SECOND FORM's CARD OF 'postillaw07.VoteNext'. -/
def voteNextUptoCard : Claim7 := { stood := { row := voteNextUptoRow, standIns := [], harness := (true, "000ad7908c604e6c37cd17f95f645d81195a477fe851816e0d8bd7f6aec384be"), looks := false }, kinds := [], alts := [], laidByText := true, laidKinds := [.funcs, .funcs], laidTests := true, laidLooks := .later }
def VoteNextUptoCardSaid : Prop := Claim7.holds Tryz.pinned (.plain (OpenSpec.upto voteNextSpec)) voteNextUptoCard

/-- THE SECOND FORM's CARD OF 'postillaw07.VoteMoot'. -/
def voteMootUptoCard : Claim7 := { stood := { row := voteMootUptoRow, standIns := [], harness := (true, "000ad7908c604e6c37cd17f95f645d81195a477fe851816e0d8bd7f6aec384be"), looks := false }, kinds := [], alts := [], laidByText := true, laidKinds := [.funcs, .funcs], laidTests := true, laidLooks := .later }
def VoteMootUptoCardSaid : Prop := Claim7.holds Tryz.pinned (.plain (OpenSpec.upto voteMootSpec)) voteMootUptoCard

/-- THE SECOND FORM's CARD OF 'postillaw07.VoteUnder'. -/
def voteUnderUptoCard : Claim7 := { stood := { row := voteUnderUptoRow, standIns := [], harness := (true, "000ad7908c604e6c37cd17f95f645d81195a477fe851816e0d8bd7f6aec384be"), looks := false }, kinds := [], alts := [], laidByText := true, laidKinds := [.funcs, .funcs], laidTests := true, laidLooks := .later }
def VoteUnderUptoCardSaid : Prop := Claim7.holds Tryz.pinned (.plain (OpenSpec.upto voteUnderSpec)) voteUnderUptoCard

/-- THE SECOND FORM's CARD OF 'postillaw07.VoteFollow'. -/
def voteFollowUptoCard : Claim7 := { stood := { row := voteFollowUptoRow, standIns := [], harness := (true, "000ad7908c604e6c37cd17f95f645d81195a477fe851816e0d8bd7f6aec384be"), looks := false }, kinds := [], alts := [], laidByText := true, laidKinds := [.funcs, .funcs], laidTests := true, laidLooks := .later }
def VoteFollowUptoCardSaid : Prop := Claim7.holds Tryz.pinned (.plain (OpenSpec.upto voteFollowSpec)) voteFollowUptoCard
end Rows
end Go.Proofs.YtjdbapoodefncaaGreatDoor
