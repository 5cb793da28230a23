/-
  NARROWER THAN 'FOR EVERY INPUT', by the rows' own cells (each row's printed sentence says how): VoteTells: laid · VoteCounts: laid · VoteDecides: laid.
  DERIVED. THE GIVEN ROWS OF THIS SEAT. 3 by the template 'for every input the law returns true; each argument reads behind the call as it read before'; 0 by the template 'total and deterministic' (their statements: YtfeechoaiiohhaaGreatDoorTotals.lean).
  GIVEN WITH THE SEED: the statements are not yours to turn. If you find one false, say at which input.
  Laid BY PROGRAM, IN A SANDBOX (cutbox-rows.mjs): the forced cells as the released guide's own fill.sh prints them over the translation 9433747c261d2f20… (all of the seat's roots in one cut). By AI agents, Wed Nov 11 2026. No macro, syntax, notation, axiom, sorry.
-/
import Derived.Test.YtfeechoaiiohhaaGreatDoorChecked
import GoSem.Claim
import GoSem.ClaimJoined
import GoSem.ClaimMapViews
import Derived.JoinedTies
import Derived.KernelRfl
namespace Go.Proofs.YtfeechoaiiohhaaGreatDoor
/- THE CELL 'sum', in the pinned program and in every row, IS THE sha256 OF THE DUMP (.gsa) THAT YtfeechoaiiohhaaGreatDoorProg.lean LOADS. Nothing in Lean hashes anything: it is a label: what it is worth is what the hold of that sum in a sandbox is worth. -/
noncomputable def Tryz.pinned : Pinned := { name := "ytfeechoaiiohhaagreatdoor", sum := "9433747c261d2f203cc93a0b2cecebbd4b76833a2ddf5db593d75b653586bd85", checked := Tryz.checked }
namespace Rows
def none {H : Type} : Left H := { results := [], args := [] }

/- WHAT THE LISTED PACKAGE-LEVEL VARIABLES READ AS WHEN THE CALL BEGINS. Each datum BY PROGRAM (the guide's laid-datum.mjs) off the statement by which the dump's own 'gosem.cut.vars' lays the variable. In a bare row this is a premise. The card (YtfeechoaiiohhaaGreatDoorCards.lean) ties it to the program's text. -/
def laid_postil_stem_kinds {H : Type} : DataW H := .iface "func table" (.agg [.agg [.lit (.bool false), .lit (.bool false), .lit (.bool false), .lit (.bool false), .nil], .agg [.lit (.bool true), .lit (.bool false), .lit (.bool true), .lit (.bool false), .iface "func" (.lit (.string [112, 111, 115, 116, 105, 108, 47, 115, 116, 101, 109, 46, 107, 105, 110, 100, 115, 36, 49]))], .agg [.lit (.bool true), .lit (.bool true), .lit (.bool true), .lit (.bool false), .iface "func" (.lit (.string [112, 111, 115, 116, 105, 108, 47, 115, 116, 101, 109, 46, 107, 105, 110, 100, 115, 36, 50]))], .agg [.lit (.bool false), .lit (.bool true), .lit (.bool true), .lit (.bool false), .iface "func" (.lit (.string [112, 111, 115, 116, 105, 108, 47, 115, 116, 101, 109, 46, 107, 105, 110, 100, 115, 36, 51]))], .agg [.lit (.bool false), .lit (.bool false), .lit (.bool false), .lit (.bool true), .iface "func" (.lit (.string [112, 111, 115, 116, 105, 108, 47, 115, 116, 101, 109, 46, 107, 105, 110, 100, 115, 36, 52]))]])
def laid_postil_vote_asked {H : Type} : DataW H := .iface "func table" (.agg [.agg [.iface "func" (.lit (.string [112, 111, 115, 116, 105, 108, 47, 118, 111, 116, 101, 46, 97, 115, 107, 101, 100, 36, 49]))], .agg [.iface "func" (.lit (.string [112, 111, 115, 116, 105, 108, 47, 118, 111, 116, 101, 46, 97, 115, 107, 101, 100, 36, 50]))], .agg [.iface "func" (.lit (.string [112, 111, 115, 116, 105, 108, 47, 118, 111, 116, 101, 46, 97, 115, 107, 101, 100, 36, 51]))], .agg [.iface "func" (.lit (.string [112, 111, 115, 116, 105, 108, 47, 118, 111, 116, 101, 46, 97, 115, 107, 101, 100, 36, 52]))], .agg [.iface "func" (.lit (.string [112, 111, 115, 116, 105, 108, 47, 118, 111, 116, 101, 46, 97, 115, 107, 101, 100, 36, 53]))]])

/-- 'postillaw07.VoteTells': WHATEVER THE INPUT: true; the input reads as it did. -/
def voteTellsSpec : ChangeSpec := { name := "voteTells", fn := fun _ => fun
  | [d1, d2, d3] => { results := [.lit (.bool true)], args := [d1, d2, d3] }
  | _ => none }
def voteTellsRow : OpenClaim := { program := "ytfeechoaiiohhaagreatdoor", sum := "9433747c261d2f203cc93a0b2cecebbd4b76833a2ddf5db593d75b653586bd85", func := "postil/postillaw07.VoteTells", spec := "voteTells", unfollowed := true, recurses := true, named := ["postil/vote.asked", "postil/stem.kinds"], plainKeys := false, apart := false, laid := [("postil/stem.kinds", laid_postil_stem_kinds), ("postil/vote.asked", laid_postil_vote_asked)] }
def VoteTellsSaid : Prop := voteTellsRow.holds Tryz.pinned (OpenSpec.ofChange voteTellsSpec)

/-- ITS FALSE NEIGHBOUR: 'it returns false'. Refute it at one input. -/
def voteTellsWrong : ChangeSpec := { name := "voteTells", fn := fun _ => fun
  | [d1, d2, d3] => { results := [.lit (.bool false)], args := [d1, d2, d3] }
  | _ => none }
def VoteTellsWrongFalsely : Prop := voteTellsRow.holds Tryz.pinned (OpenSpec.ofChange voteTellsWrong)

/-- 'postillaw07.VoteCounts': WHATEVER THE INPUT: true; the input reads as it did. -/
def voteCountsSpec : ChangeSpec := { name := "voteCounts", fn := fun _ => fun
  | [d1, d2] => { results := [.lit (.bool true)], args := [d1, d2] }
  | _ => none }
def voteCountsRow : OpenClaim := { program := "ytfeechoaiiohhaagreatdoor", sum := "9433747c261d2f203cc93a0b2cecebbd4b76833a2ddf5db593d75b653586bd85", func := "postil/postillaw07.VoteCounts", spec := "voteCounts", unfollowed := true, recurses := true, named := ["postil/vote.asked", "postil/stem.kinds"], plainKeys := false, apart := false, laid := [("postil/stem.kinds", laid_postil_stem_kinds), ("postil/vote.asked", laid_postil_vote_asked)] }
def VoteCountsSaid : Prop := voteCountsRow.holds Tryz.pinned (OpenSpec.ofChange voteCountsSpec)

/-- ITS FALSE NEIGHBOUR: 'it returns false'. Refute it at one input. -/
def voteCountsWrong : ChangeSpec := { name := "voteCounts", fn := fun _ => fun
  | [d1, d2] => { results := [.lit (.bool false)], args := [d1, d2] }
  | _ => none }
def VoteCountsWrongFalsely : Prop := voteCountsRow.holds Tryz.pinned (OpenSpec.ofChange voteCountsWrong)

/-- 'postillaw07.VoteDecides': WHATEVER THE INPUT: true; the input reads as it did. -/
def voteDecidesSpec : ChangeSpec := { name := "voteDecides", fn := fun _ => fun
  | [d] => { results := [.lit (.bool true)], args := [d] }
  | _ => none }
def voteDecidesRow : OpenClaim := { program := "ytfeechoaiiohhaagreatdoor", sum := "9433747c261d2f203cc93a0b2cecebbd4b76833a2ddf5db593d75b653586bd85", func := "postil/postillaw07.VoteDecides", spec := "voteDecides", unfollowed := true, recurses := true, named := ["postil/vote.asked", "postil/stem.kinds"], plainKeys := false, apart := false, laid := [("postil/stem.kinds", laid_postil_stem_kinds), ("postil/vote.asked", laid_postil_vote_asked)] }
def VoteDecidesSaid : Prop := voteDecidesRow.holds Tryz.pinned (OpenSpec.ofChange voteDecidesSpec)

/-- ITS FALSE NEIGHBOUR: 'it returns false'. Refute it at one input. -/
def voteDecidesWrong : ChangeSpec := { name := "voteDecides", fn := fun _ => fun
  | [d] => { results := [.lit (.bool false)], args := [d] }
  | _ => none }
def VoteDecidesWrongFalsely : Prop := voteDecidesRow.holds Tryz.pinned (OpenSpec.ofChange voteDecidesWrong)

/- THE SECOND FORM. 'bulk': how many values and letters a reading holds, each counted each time it is reached (what is shared counts as often as it is met; a slice's spare places count too). A statement '..UptoSaid' is the law's where the arguments, and the package variables that the reading takes, are together of bulk at most 1048576: NARROWER than '..Said'. Prove '..Said' where nothing that the law and all that it calls make is longer than what came in: it says more and counts as full. Else prove '..UptoSaid'. A law counts once. -/
mutual
def uptoBulk {H : Type} : DataW H → Nat
  | .lit (.string bytes) => bytes.length + 1
  | .lit _ => 1
  | .nil => 1
  | .ptr d => uptoBulk d + 1
  | .slice elems spare => uptoBulkAll elems + uptoBulkAll spare + 1
  | .agg parts => uptoBulkAll parts + 1
  | .iface _ d => uptoBulk d + 1
  | .map entries => uptoBulkEntries entries + 1
  | .held _ => 1
def uptoBulkAll {H : Type} : List (DataW H) → Nat
  | [] => 0
  | d :: r => uptoBulk d + uptoBulkAll r
def uptoBulkEntries {H : Type} : List (Lit × DataW H) → Nat
  | [] => 0
  | x :: r => uptoBulkEntry x + uptoBulkEntries r
def uptoBulkEntry {H : Type} : Lit × DataW H → Nat
  | (.string bytes, d) => bytes.length + uptoBulk d + 1
  | (_, d) => uptoBulk d + 1
 end
def uptoSmall : (H : Type) → List (DataW H) → Bool := fun _ ds => decide (uptoBulkAll ds ≤ 1048576)
def OpenSpec.upto (s : _root_.Go.ChangeSpec) : _root_.Go.OpenSpec := { _root_.Go.OpenSpec.ofChange s with cond := some uptoSmall }

/-- 'postillaw07.VoteTells', WHERE WHAT IT READS IS OF BULK AT MOST 1048576: true; the input reads as it did. -/
def voteTellsUptoRow : OpenClaim := { program := "ytfeechoaiiohhaagreatdoor", sum := "9433747c261d2f203cc93a0b2cecebbd4b76833a2ddf5db593d75b653586bd85", func := "postil/postillaw07.VoteTells", spec := "voteTells", unfollowed := true, recurses := true, named := ["postil/vote.asked", "postil/stem.kinds"], plainKeys := false, apart := false, laid := [("postil/stem.kinds", laid_postil_stem_kinds), ("postil/vote.asked", laid_postil_vote_asked)], narrowed := true }
def VoteTellsUptoSaid : Prop := voteTellsUptoRow.holds Tryz.pinned (OpenSpec.upto voteTellsSpec)

/-- 'postillaw07.VoteCounts', WHERE WHAT IT READS IS OF BULK AT MOST 1048576: true; the input reads as it did. -/
def voteCountsUptoRow : OpenClaim := { program := "ytfeechoaiiohhaagreatdoor", sum := "9433747c261d2f203cc93a0b2cecebbd4b76833a2ddf5db593d75b653586bd85", func := "postil/postillaw07.VoteCounts", spec := "voteCounts", unfollowed := true, recurses := true, named := ["postil/vote.asked", "postil/stem.kinds"], plainKeys := false, apart := false, laid := [("postil/stem.kinds", laid_postil_stem_kinds), ("postil/vote.asked", laid_postil_vote_asked)], narrowed := true }
def VoteCountsUptoSaid : Prop := voteCountsUptoRow.holds Tryz.pinned (OpenSpec.upto voteCountsSpec)

/-- 'postillaw07.VoteDecides', WHERE WHAT IT READS IS OF BULK AT MOST 1048576: true; the input reads as it did. -/
def voteDecidesUptoRow : OpenClaim := { program := "ytfeechoaiiohhaagreatdoor", sum := "9433747c261d2f203cc93a0b2cecebbd4b76833a2ddf5db593d75b653586bd85", func := "postil/postillaw07.VoteDecides", spec := "voteDecides", unfollowed := true, recurses := true, named := ["postil/vote.asked", "postil/stem.kinds"], plainKeys := false, apart := false, laid := [("postil/stem.kinds", laid_postil_stem_kinds), ("postil/vote.asked", laid_postil_vote_asked)], narrowed := true }
def VoteDecidesUptoSaid : Prop := voteDecidesUptoRow.holds Tryz.pinned (OpenSpec.upto voteDecidesSpec)

end Rows
end Go.Proofs.YtfeechoaiiohhaaGreatDoor
