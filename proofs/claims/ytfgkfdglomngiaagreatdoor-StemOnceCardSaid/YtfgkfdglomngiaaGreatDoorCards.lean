/-
  DERIVED. GIVEN WITH THE SEED: THE CARDS: each row of YtfgkfdglomngiaaGreatDoorRows.lean that lists a variable, with what it lists TIED to the program's text (the seventh form; the later family's looks); each row that meets fmt, with fmt's text TOLD by the authors' own Lean function (tested against real Go, not proved from fmt's source: count such statements apart). THE CARD IS WHAT COUNTS. Prove the row's statement (the work); the ties are given (YtfgkfdglomngiaaGreatDoorTie.lean); close each card by the builder's one call (the guide's Derived/Test/ToyasCard.lean, 'card_holds'). Laid BY PROGRAM, IN A SANDBOX (cutbox-door.mjs). By AI agents, Wed Nov 11 2026. No macro, syntax, notation, axiom, sorry.
-/
import Derived.Test.YtfgkfdglomngiaaGreatDoorRows
import GoSem.ClaimSeven
namespace Go.Proofs.YtfgkfdglomngiaaGreatDoor
namespace Rows

/-- THE TIED CARD OF 'postillaw04.StemConcerned'. -/
def stemConcernedCard : Claim7 := { stood := { row := stemConcernedRow, standIns := [], harness := (true, "8f391a492a7f709a7069026d552954bd052802f20a7af18a3075723329cf0129"), looks := false }, kinds := [], alts := [], laidByText := true, laidKinds := [.funcs], laidTests := true, laidLooks := .later }
def StemConcernedCardSaid : Prop := Claim7.holds Tryz.pinned (.plain (OpenSpec.ofChange stemConcernedSpec)) stemConcernedCard

/-- THE TIED CARD OF 'postillaw04.StemOrder'. -/
def stemOrderCard : Claim7 := { stood := { row := stemOrderRow, standIns := [], harness := (true, "8f391a492a7f709a7069026d552954bd052802f20a7af18a3075723329cf0129"), looks := false }, kinds := [], alts := [], laidByText := true, laidKinds := [.funcs], laidTests := true, laidLooks := .later }
def StemOrderCardSaid : Prop := Claim7.holds Tryz.pinned (.plain (OpenSpec.ofChange stemOrderSpec)) stemOrderCard

/-- THE TIED CARD OF 'postillaw04.StemSteps'. -/
def stemStepsCard : Claim7 := { stood := { row := stemStepsRow, standIns := [], harness := (true, "8f391a492a7f709a7069026d552954bd052802f20a7af18a3075723329cf0129"), looks := false }, kinds := [], alts := [], laidByText := true, laidKinds := [.funcs], laidTests := true, laidLooks := .later }
def StemStepsCardSaid : Prop := Claim7.holds Tryz.pinned (.plain (OpenSpec.ofChange stemStepsSpec)) stemStepsCard

/-- THE TIED CARD OF 'postillaw04.StemWins'. -/
def stemWinsCard : Claim7 := { stood := { row := stemWinsRow, standIns := [], harness := (true, "8f391a492a7f709a7069026d552954bd052802f20a7af18a3075723329cf0129"), looks := false }, kinds := [], alts := [], laidByText := true, laidKinds := [.funcs], laidTests := true, laidLooks := .later }
def StemWinsCardSaid : Prop := Claim7.holds Tryz.pinned (.plain (OpenSpec.ofChange stemWinsSpec)) stemWinsCard

/-- THE TIED CARD OF 'postillaw04.StemVoid'. -/
def stemVoidCard : Claim7 := { stood := { row := stemVoidRow, standIns := [], harness := (true, "8f391a492a7f709a7069026d552954bd052802f20a7af18a3075723329cf0129"), looks := false }, kinds := [], alts := [], laidByText := true, laidKinds := [.funcs], laidTests := true, laidLooks := .later }
def StemVoidCardSaid : Prop := Claim7.holds Tryz.pinned (.plain (OpenSpec.ofChange stemVoidSpec)) stemVoidCard

/-- THE TIED CARD OF 'postillaw04.StemIdle'. -/
def stemIdleCard : Claim7 := { stood := { row := stemIdleRow, standIns := [], harness := (true, "8f391a492a7f709a7069026d552954bd052802f20a7af18a3075723329cf0129"), looks := false }, kinds := [], alts := [], laidByText := true, laidKinds := [.funcs], laidTests := true, laidLooks := .later }
def StemIdleCardSaid : Prop := Claim7.holds Tryz.pinned (.plain (OpenSpec.ofChange stemIdleSpec)) stemIdleCard

/-- THE TIED CARD OF 'postillaw04.StemExamples'. -/
def stemExamplesCard : Claim7 := { stood := { row := stemExamplesRow, standIns := [], harness := (true, "8f391a492a7f709a7069026d552954bd052802f20a7af18a3075723329cf0129"), looks := false }, kinds := [], alts := [], laidByText := true, laidKinds := [.funcs], laidTests := true, laidLooks := .later }
def StemExamplesCardSaid : Prop := Claim7.holds Tryz.pinned (.plain (OpenSpec.ofChange stemExamplesSpec)) stemExamplesCard

/-- THE TIED CARD OF 'postillaw04.StemHomographs'. -/
def stemHomographsCard : Claim7 := { stood := { row := stemHomographsRow, standIns := [], harness := (true, "8f391a492a7f709a7069026d552954bd052802f20a7af18a3075723329cf0129"), looks := false }, kinds := [], alts := [], laidByText := true, laidKinds := [.funcs], laidTests := true, laidLooks := .later }
def StemHomographsCardSaid : Prop := Claim7.holds Tryz.pinned (.plain (OpenSpec.ofChange stemHomographsSpec)) stemHomographsCard

/-- THE TIED CARD OF 'postillaw04.StemOnce'. -/
def stemOnceCard : Claim7 := { stood := { row := stemOnceRow, standIns := [], harness := (true, "8f391a492a7f709a7069026d552954bd052802f20a7af18a3075723329cf0129"), looks := false }, kinds := [], alts := [], laidByText := true, laidKinds := [.funcs], laidTests := true, laidLooks := .later }
def StemOnceCardSaid : Prop := Claim7.holds Tryz.pinned (.plain (OpenSpec.ofChange stemOnceSpec)) stemOnceCard

/-- THE TIED CARD OF 'postillaw04.StemCopies'. -/
def stemCopiesCard : Claim7 := { stood := { row := stemCopiesRow, standIns := [], harness := (true, "8f391a492a7f709a7069026d552954bd052802f20a7af18a3075723329cf0129"), looks := false }, kinds := [], alts := [], laidByText := true, laidKinds := [.funcs, .funcs], laidTests := true, laidLooks := .later }
def StemCopiesCardSaid : Prop := Claim7.holds Tryz.pinned (.plain (OpenSpec.ofChange stemCopiesSpec)) stemCopiesCard

/-- THE SECOND FORM's CARD OF 'postillaw04.StemConcerned'. -/
def stemConcernedUptoCard : Claim7 := { stood := { row := stemConcernedUptoRow, standIns := [], harness := (true, "8f391a492a7f709a7069026d552954bd052802f20a7af18a3075723329cf0129"), looks := false }, kinds := [], alts := [], laidByText := true, laidKinds := [.funcs], laidTests := true, laidLooks := .later }
def StemConcernedUptoCardSaid : Prop := Claim7.holds Tryz.pinned (.plain (OpenSpec.upto stemConcernedSpec)) stemConcernedUptoCard

/-- THE SECOND FORM's CARD OF 'postillaw04.StemOrder'. -/
def stemOrderUptoCard : Claim7 := { stood := { row := stemOrderUptoRow, standIns := [], harness := (true, "8f391a492a7f709a7069026d552954bd052802f20a7af18a3075723329cf0129"), looks := false }, kinds := [], alts := [], laidByText := true, laidKinds := [.funcs], laidTests := true, laidLooks := .later }
def StemOrderUptoCardSaid : Prop := Claim7.holds Tryz.pinned (.plain (OpenSpec.upto stemOrderSpec)) stemOrderUptoCard

/-- THE SECOND FORM's CARD OF 'postillaw04.StemSteps'. -/
def stemStepsUptoCard : Claim7 := { stood := { row := stemStepsUptoRow, standIns := [], harness := (true, "8f391a492a7f709a7069026d552954bd052802f20a7af18a3075723329cf0129"), looks := false }, kinds := [], alts := [], laidByText := true, laidKinds := [.funcs], laidTests := true, laidLooks := .later }
def StemStepsUptoCardSaid : Prop := Claim7.holds Tryz.pinned (.plain (OpenSpec.upto stemStepsSpec)) stemStepsUptoCard

/-- THE SECOND FORM's CARD OF 'postillaw04.StemWins'. -/
def stemWinsUptoCard : Claim7 := { stood := { row := stemWinsUptoRow, standIns := [], harness := (true, "8f391a492a7f709a7069026d552954bd052802f20a7af18a3075723329cf0129"), looks := false }, kinds := [], alts := [], laidByText := true, laidKinds := [.funcs], laidTests := true, laidLooks := .later }
def StemWinsUptoCardSaid : Prop := Claim7.holds Tryz.pinned (.plain (OpenSpec.upto stemWinsSpec)) stemWinsUptoCard

/-- THE SECOND FORM's CARD OF 'postillaw04.StemVoid'. -/
def stemVoidUptoCard : Claim7 := { stood := { row := stemVoidUptoRow, standIns := [], harness := (true, "8f391a492a7f709a7069026d552954bd052802f20a7af18a3075723329cf0129"), looks := false }, kinds := [], alts := [], laidByText := true, laidKinds := [.funcs], laidTests := true, laidLooks := .later }
def StemVoidUptoCardSaid : Prop := Claim7.holds Tryz.pinned (.plain (OpenSpec.upto stemVoidSpec)) stemVoidUptoCard

/-- THE SECOND FORM's CARD OF 'postillaw04.StemIdle'. -/
def stemIdleUptoCard : Claim7 := { stood := { row := stemIdleUptoRow, standIns := [], harness := (true, "8f391a492a7f709a7069026d552954bd052802f20a7af18a3075723329cf0129"), looks := false }, kinds := [], alts := [], laidByText := true, laidKinds := [.funcs], laidTests := true, laidLooks := .later }
def StemIdleUptoCardSaid : Prop := Claim7.holds Tryz.pinned (.plain (OpenSpec.upto stemIdleSpec)) stemIdleUptoCard

/-- THE SECOND FORM's CARD OF 'postillaw04.StemExamples'. -/
def stemExamplesUptoCard : Claim7 := { stood := { row := stemExamplesUptoRow, standIns := [], harness := (true, "8f391a492a7f709a7069026d552954bd052802f20a7af18a3075723329cf0129"), looks := false }, kinds := [], alts := [], laidByText := true, laidKinds := [.funcs], laidTests := true, laidLooks := .later }
def StemExamplesUptoCardSaid : Prop := Claim7.holds Tryz.pinned (.plain (OpenSpec.upto stemExamplesSpec)) stemExamplesUptoCard

/-- THE SECOND FORM's CARD OF 'postillaw04.StemHomographs'. -/
def stemHomographsUptoCard : Claim7 := { stood := { row := stemHomographsUptoRow, standIns := [], harness := (true, "8f391a492a7f709a7069026d552954bd052802f20a7af18a3075723329cf0129"), looks := false }, kinds := [], alts := [], laidByText := true, laidKinds := [.funcs], laidTests := true, laidLooks := .later }
def StemHomographsUptoCardSaid : Prop := Claim7.holds Tryz.pinned (.plain (OpenSpec.upto stemHomographsSpec)) stemHomographsUptoCard

/-- THE SECOND FORM's CARD OF 'postillaw04.StemOnce'. -/
def stemOnceUptoCard : Claim7 := { stood := { row := stemOnceUptoRow, standIns := [], harness := (true, "8f391a492a7f709a7069026d552954bd052802f20a7af18a3075723329cf0129"), looks := false }, kinds := [], alts := [], laidByText := true, laidKinds := [.funcs], laidTests := true, laidLooks := .later }
def StemOnceUptoCardSaid : Prop := Claim7.holds Tryz.pinned (.plain (OpenSpec.upto stemOnceSpec)) stemOnceUptoCard

/-- THE SECOND FORM's CARD OF 'postillaw04.StemCopies'. -/
def stemCopiesUptoCard : Claim7 := { stood := { row := stemCopiesUptoRow, standIns := [], harness := (true, "8f391a492a7f709a7069026d552954bd052802f20a7af18a3075723329cf0129"), looks := false }, kinds := [], alts := [], laidByText := true, laidKinds := [.funcs, .funcs], laidTests := true, laidLooks := .later }
def StemCopiesUptoCardSaid : Prop := Claim7.holds Tryz.pinned (.plain (OpenSpec.upto stemCopiesSpec)) stemCopiesUptoCard
end Rows
end Go.Proofs.YtfgkfdglomngiaaGreatDoor
