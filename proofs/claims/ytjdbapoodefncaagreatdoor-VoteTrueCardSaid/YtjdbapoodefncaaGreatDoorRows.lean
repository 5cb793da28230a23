/-
  NARROWER THAN 'FOR EVERY INPUT', by the rows' own cells (each row's printed sentence says how): VoteExamples: laid · VoteTrue: laid · VoteAsk: laid · VoteNext: laid · VoteMoot: laid · VoteUnder: laid · VoteFollow: laid.
  DERIVED. THE GIVEN ROWS OF THIS SEAT. 7 by the template 'for every input the law returns true; each argument reads behind the call as it read before'; 0 by the template 'total and deterministic' (their statements: YtjdbapoodefncaaGreatDoorTotals.lean).
  GIVEN WITH THE SEED: the statements are not yours to turn. If you find one false, say at which input.
  Laid BY PROGRAM, IN A SANDBOX (cutbox-rows.mjs): the forced cells as the released guide's own fill.sh prints them over the translation eefcef98c3920886… (all of the seat's roots in one cut). By AI agents, Wed Nov 11 2026. No macro, syntax, notation, axiom, sorry.
-/
import Derived.Test.YtjdbapoodefncaaGreatDoorChecked
import GoSem.Claim
import GoSem.ClaimJoined
import GoSem.ClaimMapViews
import Derived.JoinedTies
import Derived.KernelRfl
namespace Go.Proofs.YtjdbapoodefncaaGreatDoor
/- THE CELL 'sum', in the pinned program and in every row, IS THE sha256 OF THE DUMP (.gsa) THAT YtjdbapoodefncaaGreatDoorProg.lean LOADS. Nothing in Lean hashes anything: it is a label: what it is worth is what the hold of that sum in a sandbox is worth. -/
noncomputable def Tryz.pinned : Pinned := { name := "ytjdbapoodefncaagreatdoor", sum := "eefcef98c39208868bdfe97a87b0ab40faec6cf9c0741303d3cf8867e6b0765b", checked := Tryz.checked }
namespace Rows
def none {H : Type} : Left H := { results := [], args := [] }

/- WHAT THE LISTED PACKAGE-LEVEL VARIABLES READ AS WHEN THE CALL BEGINS. Each datum BY PROGRAM (the guide's laid-datum.mjs) off the statement by which the dump's own 'gosem.cut.vars' lays the variable. In a bare row this is a premise. The card (YtjdbapoodefncaaGreatDoorCards.lean) ties it to the program's text. -/
def laid_postil_stem_kinds {H : Type} : DataW H := .iface "func table" (.agg [.agg [.lit (.bool false), .lit (.bool false), .lit (.bool false), .lit (.bool false), .nil], .agg [.lit (.bool true), .lit (.bool false), .lit (.bool true), .lit (.bool false), .iface "func" (.lit (.string [112, 111, 115, 116, 105, 108, 47, 115, 116, 101, 109, 46, 107, 105, 110, 100, 115, 36, 49]))], .agg [.lit (.bool true), .lit (.bool true), .lit (.bool true), .lit (.bool false), .iface "func" (.lit (.string [112, 111, 115, 116, 105, 108, 47, 115, 116, 101, 109, 46, 107, 105, 110, 100, 115, 36, 50]))], .agg [.lit (.bool false), .lit (.bool true), .lit (.bool true), .lit (.bool false), .iface "func" (.lit (.string [112, 111, 115, 116, 105, 108, 47, 115, 116, 101, 109, 46, 107, 105, 110, 100, 115, 36, 51]))], .agg [.lit (.bool false), .lit (.bool false), .lit (.bool false), .lit (.bool true), .iface "func" (.lit (.string [112, 111, 115, 116, 105, 108, 47, 115, 116, 101, 109, 46, 107, 105, 110, 100, 115, 36, 52]))]])
def laid_postil_vote_asked {H : Type} : DataW H := .iface "func table" (.agg [.agg [.iface "func" (.lit (.string [112, 111, 115, 116, 105, 108, 47, 118, 111, 116, 101, 46, 97, 115, 107, 101, 100, 36, 49]))], .agg [.iface "func" (.lit (.string [112, 111, 115, 116, 105, 108, 47, 118, 111, 116, 101, 46, 97, 115, 107, 101, 100, 36, 50]))], .agg [.iface "func" (.lit (.string [112, 111, 115, 116, 105, 108, 47, 118, 111, 116, 101, 46, 97, 115, 107, 101, 100, 36, 51]))], .agg [.iface "func" (.lit (.string [112, 111, 115, 116, 105, 108, 47, 118, 111, 116, 101, 46, 97, 115, 107, 101, 100, 36, 52]))], .agg [.iface "func" (.lit (.string [112, 111, 115, 116, 105, 108, 47, 118, 111, 116, 101, 46, 97, 115, 107, 101, 100, 36, 53]))]])

/-- 'postillaw07.VoteExamples': WHATEVER THE INPUT: true; the input reads as it did. -/
def voteExamplesSpec : ChangeSpec := { name := "voteExamples", fn := fun _ => fun
  | [] => { results := [.lit (.bool true)], args := [] }
  | _ => none }
def voteExamplesRow : OpenClaim := { program := "ytjdbapoodefncaagreatdoor", sum := "eefcef98c39208868bdfe97a87b0ab40faec6cf9c0741303d3cf8867e6b0765b", func := "postil/postillaw07.VoteExamples", spec := "voteExamples", unfollowed := true, recurses := true, named := ["postil/vote.asked", "postil/stem.kinds"], plainKeys := false, apart := false, laid := [("postil/stem.kinds", laid_postil_stem_kinds), ("postil/vote.asked", laid_postil_vote_asked)] }
def VoteExamplesSaid : Prop := voteExamplesRow.holds Tryz.pinned (OpenSpec.ofChange voteExamplesSpec)

/-- ITS FALSE NEIGHBOUR: 'it returns false'. Refute it at one input. -/
def voteExamplesWrong : ChangeSpec := { name := "voteExamples", fn := fun _ => fun
  | [] => { results := [.lit (.bool false)], args := [] }
  | _ => none }
def VoteExamplesWrongFalsely : Prop := voteExamplesRow.holds Tryz.pinned (OpenSpec.ofChange voteExamplesWrong)

/-- 'postillaw07.VoteTrue': WHATEVER THE INPUT: true; the input reads as it did. -/
def voteTrueSpec : ChangeSpec := { name := "voteTrue", fn := fun _ => fun
  | [d1, d2] => { results := [.lit (.bool true)], args := [d1, d2] }
  | _ => none }
def voteTrueRow : OpenClaim := { program := "ytjdbapoodefncaagreatdoor", sum := "eefcef98c39208868bdfe97a87b0ab40faec6cf9c0741303d3cf8867e6b0765b", func := "postil/postillaw07.VoteTrue", spec := "voteTrue", unfollowed := true, recurses := true, named := ["postil/vote.asked", "postil/stem.kinds"], plainKeys := false, apart := false, laid := [("postil/stem.kinds", laid_postil_stem_kinds), ("postil/vote.asked", laid_postil_vote_asked)] }
def VoteTrueSaid : Prop := voteTrueRow.holds Tryz.pinned (OpenSpec.ofChange voteTrueSpec)

/-- ITS FALSE NEIGHBOUR: 'it returns false'. Refute it at one input. -/
def voteTrueWrong : ChangeSpec := { name := "voteTrue", fn := fun _ => fun
  | [d1, d2] => { results := [.lit (.bool false)], args := [d1, d2] }
  | _ => none }
def VoteTrueWrongFalsely : Prop := voteTrueRow.holds Tryz.pinned (OpenSpec.ofChange voteTrueWrong)

/-- 'postillaw07.VoteAsk': WHATEVER THE INPUT: true; the input reads as it did. -/
def voteAskSpec : ChangeSpec := { name := "voteAsk", fn := fun _ => fun
  | [d1, d2, d3] => { results := [.lit (.bool true)], args := [d1, d2, d3] }
  | _ => none }
def voteAskRow : OpenClaim := { program := "ytjdbapoodefncaagreatdoor", sum := "eefcef98c39208868bdfe97a87b0ab40faec6cf9c0741303d3cf8867e6b0765b", func := "postil/postillaw07.VoteAsk", spec := "voteAsk", unfollowed := true, recurses := true, named := ["postil/vote.asked", "postil/stem.kinds"], plainKeys := false, apart := false, laid := [("postil/stem.kinds", laid_postil_stem_kinds), ("postil/vote.asked", laid_postil_vote_asked)] }
def VoteAskSaid : Prop := voteAskRow.holds Tryz.pinned (OpenSpec.ofChange voteAskSpec)

/-- ITS FALSE NEIGHBOUR: 'it returns false'. Refute it at one input. -/
def voteAskWrong : ChangeSpec := { name := "voteAsk", fn := fun _ => fun
  | [d1, d2, d3] => { results := [.lit (.bool false)], args := [d1, d2, d3] }
  | _ => none }
def VoteAskWrongFalsely : Prop := voteAskRow.holds Tryz.pinned (OpenSpec.ofChange voteAskWrong)

/-- 'postillaw07.VoteNext': WHATEVER THE INPUT: true; the input reads as it did. -/
def voteNextSpec : ChangeSpec := { name := "voteNext", fn := fun _ => fun
  | [d1, d2] => { results := [.lit (.bool true)], args := [d1, d2] }
  | _ => none }
def voteNextRow : OpenClaim := { program := "ytjdbapoodefncaagreatdoor", sum := "eefcef98c39208868bdfe97a87b0ab40faec6cf9c0741303d3cf8867e6b0765b", func := "postil/postillaw07.VoteNext", spec := "voteNext", unfollowed := true, recurses := true, named := ["postil/vote.asked", "postil/stem.kinds"], plainKeys := false, apart := false, laid := [("postil/stem.kinds", laid_postil_stem_kinds), ("postil/vote.asked", laid_postil_vote_asked)] }
def VoteNextSaid : Prop := voteNextRow.holds Tryz.pinned (OpenSpec.ofChange voteNextSpec)

/-- ITS FALSE NEIGHBOUR: 'it returns false'. Refute it at one input. -/
def voteNextWrong : ChangeSpec := { name := "voteNext", fn := fun _ => fun
  | [d1, d2] => { results := [.lit (.bool false)], args := [d1, d2] }
  | _ => none }
def VoteNextWrongFalsely : Prop := voteNextRow.holds Tryz.pinned (OpenSpec.ofChange voteNextWrong)

/-- 'postillaw07.VoteMoot': WHATEVER THE INPUT: true; the input reads as it did. -/
def voteMootSpec : ChangeSpec := { name := "voteMoot", fn := fun _ => fun
  | [d] => { results := [.lit (.bool true)], args := [d] }
  | _ => none }
def voteMootRow : OpenClaim := { program := "ytjdbapoodefncaagreatdoor", sum := "eefcef98c39208868bdfe97a87b0ab40faec6cf9c0741303d3cf8867e6b0765b", func := "postil/postillaw07.VoteMoot", spec := "voteMoot", unfollowed := true, recurses := true, named := ["postil/vote.asked", "postil/stem.kinds"], plainKeys := false, apart := false, laid := [("postil/stem.kinds", laid_postil_stem_kinds), ("postil/vote.asked", laid_postil_vote_asked)] }
def VoteMootSaid : Prop := voteMootRow.holds Tryz.pinned (OpenSpec.ofChange voteMootSpec)

/-- ITS FALSE NEIGHBOUR: 'it returns false'. Refute it at one input. -/
def voteMootWrong : ChangeSpec := { name := "voteMoot", fn := fun _ => fun
  | [d] => { results := [.lit (.bool false)], args := [d] }
  | _ => none }
def VoteMootWrongFalsely : Prop := voteMootRow.holds Tryz.pinned (OpenSpec.ofChange voteMootWrong)

/-- 'postillaw07.VoteUnder': WHATEVER THE INPUT: true; the input reads as it did. -/
def voteUnderSpec : ChangeSpec := { name := "voteUnder", fn := fun _ => fun
  | [d] => { results := [.lit (.bool true)], args := [d] }
  | _ => none }
def voteUnderRow : OpenClaim := { program := "ytjdbapoodefncaagreatdoor", sum := "eefcef98c39208868bdfe97a87b0ab40faec6cf9c0741303d3cf8867e6b0765b", func := "postil/postillaw07.VoteUnder", spec := "voteUnder", unfollowed := true, recurses := true, named := ["postil/vote.asked", "postil/stem.kinds"], plainKeys := false, apart := false, laid := [("postil/stem.kinds", laid_postil_stem_kinds), ("postil/vote.asked", laid_postil_vote_asked)] }
def VoteUnderSaid : Prop := voteUnderRow.holds Tryz.pinned (OpenSpec.ofChange voteUnderSpec)

/-- ITS FALSE NEIGHBOUR: 'it returns false'. Refute it at one input. -/
def voteUnderWrong : ChangeSpec := { name := "voteUnder", fn := fun _ => fun
  | [d] => { results := [.lit (.bool false)], args := [d] }
  | _ => none }
def VoteUnderWrongFalsely : Prop := voteUnderRow.holds Tryz.pinned (OpenSpec.ofChange voteUnderWrong)

/-- 'postillaw07.VoteFollow': WHATEVER THE INPUT: true; the input reads as it did. -/
def voteFollowSpec : ChangeSpec := { name := "voteFollow", fn := fun _ => fun
  | [d1, d2] => { results := [.lit (.bool true)], args := [d1, d2] }
  | _ => none }
def voteFollowRow : OpenClaim := { program := "ytjdbapoodefncaagreatdoor", sum := "eefcef98c39208868bdfe97a87b0ab40faec6cf9c0741303d3cf8867e6b0765b", func := "postil/postillaw07.VoteFollow", spec := "voteFollow", unfollowed := true, recurses := true, named := ["postil/vote.asked", "postil/stem.kinds"], plainKeys := false, apart := false, laid := [("postil/stem.kinds", laid_postil_stem_kinds), ("postil/vote.asked", laid_postil_vote_asked)] }
def VoteFollowSaid : Prop := voteFollowRow.holds Tryz.pinned (OpenSpec.ofChange voteFollowSpec)

/-- ITS FALSE NEIGHBOUR: 'it returns false'. Refute it at one input. -/
def voteFollowWrong : ChangeSpec := { name := "voteFollow", fn := fun _ => fun
  | [d1, d2] => { results := [.lit (.bool false)], args := [d1, d2] }
  | _ => none }
def VoteFollowWrongFalsely : Prop := voteFollowRow.holds Tryz.pinned (OpenSpec.ofChange voteFollowWrong)

/- THE SECOND FORM. 'bulk': how many values and letters a reading holds, each counted each time it is reached (what is shared counts as often as it is met; a slice's spare places count too). A statement '..UptoSaid' is the law's where the arguments, and the package variables that the reading takes, are together of bulk at most 1048576: NARROWER than '..Said'. Prove '..Said' where nothing that the law and all that it calls make is longer than what came in: it says more and counts as full. Else prove '..UptoSaid'. A law counts once. -/
mutual
def uptoBulk {H : Type} : DataW H → Nat
  | .lit (.string bytes) => bytes.length + 1
  | .lit _ => 1
  | .nil => 1
  | .ptr d => uptoBulk d + 1
  | .slice elems spare => uptoBulkAll elems + uptoBulkAll spare + 1
  | .agg parts => uptoBulkAll parts + 1
  | .iface _ d => uptoBulk d + 1
  | .map entries => uptoBulkEntries entries + 1
  | .held _ => 1
def uptoBulkAll {H : Type} : List (DataW H) → Nat
  | [] => 0
  | d :: r => uptoBulk d + uptoBulkAll r
def uptoBulkEntries {H : Type} : List (Lit × DataW H) → Nat
  | [] => 0
  | x :: r => uptoBulkEntry x + uptoBulkEntries r
def uptoBulkEntry {H : Type} : Lit × DataW H → Nat
  | (.string bytes, d) => bytes.length + uptoBulk d + 1
  | (_, d) => uptoBulk d + 1
 end
def uptoSmall : (H : Type) → List (DataW H) → Bool := fun _ ds => decide (uptoBulkAll ds ≤ 1048576)
def OpenSpec.upto (s : _root_.Go.ChangeSpec) : _root_.Go.OpenSpec := { _root_.Go.OpenSpec.ofChange s with cond := some uptoSmall }

/-- 'postillaw07.VoteExamples', WHERE WHAT IT READS IS OF BULK AT MOST 1048576: true; the input reads as it did. -/
def voteExamplesUptoRow : OpenClaim := { program := "ytjdbapoodefncaagreatdoor", sum := "eefcef98c39208868bdfe97a87b0ab40faec6cf9c0741303d3cf8867e6b0765b", func := "postil/postillaw07.VoteExamples", spec := "voteExamples", unfollowed := true, recurses := true, named := ["postil/vote.asked", "postil/stem.kinds"], plainKeys := false, apart := false, laid := [("postil/stem.kinds", laid_postil_stem_kinds), ("postil/vote.asked", laid_postil_vote_asked)], narrowed := true }
def VoteExamplesUptoSaid : Prop := voteExamplesUptoRow.holds Tryz.pinned (OpenSpec.upto voteExamplesSpec)

/-- 'postillaw07.VoteTrue', WHERE WHAT IT READS IS OF BULK AT MOST 1048576: true; the input reads as it did. -/
def voteTrueUptoRow : OpenClaim := { program := "ytjdbapoodefncaagreatdoor", sum := "eefcef98c39208868bdfe97a87b0ab40faec6cf9c0741303d3cf8867e6b0765b", func := "postil/postillaw07.VoteTrue", spec := "voteTrue", unfollowed := true, recurses := true, named := ["postil/vote.asked", "postil/stem.kinds"], plainKeys := false, apart := false, laid := [("postil/stem.kinds", laid_postil_stem_kinds), ("postil/vote.asked", laid_postil_vote_asked)], narrowed := true }
def VoteTrueUptoSaid : Prop := voteTrueUptoRow.holds Tryz.pinned (OpenSpec.upto voteTrueSpec)

/-- 'postillaw07.VoteAsk', WHERE WHAT IT READS IS OF BULK AT MOST 1048576: true; the input reads as it did. -/
def voteAskUptoRow : OpenClaim := { program := "ytjdbapoodefncaagreatdoor", sum := "eefcef98c39208868bdfe97a87b0ab40faec6cf9c0741303d3cf8867e6b0765b", func := "postil/postillaw07.VoteAsk", spec := "voteAsk", unfollowed := true, recurses := true, named := ["postil/vote.asked", "postil/stem.kinds"], plainKeys := false, apart := false, laid := [("postil/stem.kinds", laid_postil_stem_kinds), ("postil/vote.asked", laid_postil_vote_asked)], narrowed := true }
def VoteAskUptoSaid : Prop := voteAskUptoRow.holds Tryz.pinned (OpenSpec.upto voteAskSpec)

/-- 'postillaw07.VoteNext', WHERE WHAT IT READS IS OF BULK AT MOST 1048576: true; the input reads as it did. -/
def voteNextUptoRow : OpenClaim := { program := "ytjdbapoodefncaagreatdoor", sum := "eefcef98c39208868bdfe97a87b0ab40faec6cf9c0741303d3cf8867e6b0765b", func := "postil/postillaw07.VoteNext", spec := "voteNext", unfollowed := true, recurses := true, named := ["postil/vote.asked", "postil/stem.kinds"], plainKeys := false, apart := false, laid := [("postil/stem.kinds", laid_postil_stem_kinds), ("postil/vote.asked", laid_postil_vote_asked)], narrowed := true }
def VoteNextUptoSaid : Prop := voteNextUptoRow.holds Tryz.pinned (OpenSpec.upto voteNextSpec)

/-- 'postillaw07.VoteMoot', WHERE WHAT IT READS IS OF BULK AT MOST 1048576: true; the input reads as it did. -/
def voteMootUptoRow : OpenClaim := { program := "ytjdbapoodefncaagreatdoor", sum := "eefcef98c39208868bdfe97a87b0ab40faec6cf9c0741303d3cf8867e6b0765b", func := "postil/postillaw07.VoteMoot", spec := "voteMoot", unfollowed := true, recurses := true, named := ["postil/vote.asked", "postil/stem.kinds"], plainKeys := false, apart := false, laid := [("postil/stem.kinds", laid_postil_stem_kinds), ("postil/vote.asked", laid_postil_vote_asked)], narrowed := true }
def VoteMootUptoSaid : Prop := voteMootUptoRow.holds Tryz.pinned (OpenSpec.upto voteMootSpec)

/-- 'postillaw07.VoteUnder', WHERE WHAT IT READS IS OF BULK AT MOST 1048576: true; the input reads as it did. -/
def voteUnderUptoRow : OpenClaim := { program := "ytjdbapoodefncaagreatdoor", sum := "eefcef98c39208868bdfe97a87b0ab40faec6cf9c0741303d3cf8867e6b0765b", func := "postil/postillaw07.VoteUnder", spec := "voteUnder", unfollowed := true, recurses := true, named := ["postil/vote.asked", "postil/stem.kinds"], plainKeys := false, apart := false, laid := [("postil/stem.kinds", laid_postil_stem_kinds), ("postil/vote.asked", laid_postil_vote_asked)], narrowed := true }
def VoteUnderUptoSaid : Prop := voteUnderUptoRow.holds Tryz.pinned (OpenSpec.upto voteUnderSpec)

/-- 'postillaw07.VoteFollow', WHERE WHAT IT READS IS OF BULK AT MOST 1048576: true; the input reads as it did. -/
def voteFollowUptoRow : OpenClaim := { program := "ytjdbapoodefncaagreatdoor", sum := "eefcef98c39208868bdfe97a87b0ab40faec6cf9c0741303d3cf8867e6b0765b", func := "postil/postillaw07.VoteFollow", spec := "voteFollow", unfollowed := true, recurses := true, named := ["postil/vote.asked", "postil/stem.kinds"], plainKeys := false, apart := false, laid := [("postil/stem.kinds", laid_postil_stem_kinds), ("postil/vote.asked", laid_postil_vote_asked)], narrowed := true }
def VoteFollowUptoSaid : Prop := voteFollowUptoRow.holds Tryz.pinned (OpenSpec.upto voteFollowSpec)

end Rows
end Go.Proofs.YtjdbapoodefncaaGreatDoor
