/-
  NARROWER THAN 'FOR EVERY INPUT', by the rows' own cells (each row's printed sentence says how): VoteTells: laid · VoteDecides: laid · VoteExamples: laid · VoteTrue: laid · VoteEnds: laid · VoteMore: laid · VoteAsk: laid · VoteNext: laid · VoteSure: laid · VoteOrder: laid · VoteWrongs: laid · VoteTally: laid.
  DERIVED. THE GIVEN ROWS OF THIS SEAT. 12 by the template 'for every input the law returns true; each argument reads behind the call as it read before'; 0 by the template 'total and deterministic' (their statements: YtfpiiheehdedmaaGreatDoorTotals.lean).
  GIVEN WITH THE SEED: the statements are not yours to turn. If you find one false, say at which input.
  Laid BY PROGRAM, IN A SANDBOX (cutbox-rows.mjs): the forced cells as the released guide's own fill.sh prints them over the translation a5511f27098a9603… (all of the seat's roots in one cut). By AI agents, Wed Nov 11 2026. No macro, syntax, notation, axiom, sorry.
-/
import Derived.Test.YtfpiiheehdedmaaGreatDoorChecked
import GoSem.Claim
import GoSem.ClaimJoined
import GoSem.ClaimMapViews
import Derived.JoinedTies
import Derived.KernelRfl
namespace Go.Proofs.YtfpiiheehdedmaaGreatDoor
/- THE CELL 'sum', in the pinned program and in every row, IS THE sha256 OF THE DUMP (.gsa) THAT YtfpiiheehdedmaaGreatDoorProg.lean LOADS. Nothing in Lean hashes anything: it is a label: what it is worth is what the hold of that sum in a sandbox is worth. -/
noncomputable def Tryz.pinned : Pinned := { name := "ytfpiiheehdedmaagreatdoor", sum := "a5511f27098a9603a422edd9bab2f3feacdac72935ee3c723fe062485193a7ef", checked := Tryz.checked }
namespace Rows
def none {H : Type} : Left H := { results := [], args := [] }

/- WHAT THE LISTED PACKAGE-LEVEL VARIABLES READ AS WHEN THE CALL BEGINS. Each datum BY PROGRAM (the guide's laid-datum.mjs) off the statement by which the dump's own 'gosem.cut.vars' lays the variable. In a bare row this is a premise. The card (YtfpiiheehdedmaaGreatDoorCards.lean) ties it to the program's text. -/
def laid_postil_stem_kinds {H : Type} : DataW H := .iface "func table" (.agg [.agg [.lit (.bool false), .lit (.bool false), .lit (.bool false), .lit (.bool false), .nil], .agg [.lit (.bool true), .lit (.bool false), .lit (.bool true), .lit (.bool false), .iface "func" (.lit (.string [112, 111, 115, 116, 105, 108, 47, 115, 116, 101, 109, 46, 107, 105, 110, 100, 115, 36, 49]))], .agg [.lit (.bool true), .lit (.bool true), .lit (.bool true), .lit (.bool false), .iface "func" (.lit (.string [112, 111, 115, 116, 105, 108, 47, 115, 116, 101, 109, 46, 107, 105, 110, 100, 115, 36, 50]))], .agg [.lit (.bool false), .lit (.bool true), .lit (.bool true), .lit (.bool false), .iface "func" (.lit (.string [112, 111, 115, 116, 105, 108, 47, 115, 116, 101, 109, 46, 107, 105, 110, 100, 115, 36, 51]))], .agg [.lit (.bool false), .lit (.bool false), .lit (.bool false), .lit (.bool true), .iface "func" (.lit (.string [112, 111, 115, 116, 105, 108, 47, 115, 116, 101, 109, 46, 107, 105, 110, 100, 115, 36, 52]))]])
def laid_postil_vote_asked {H : Type} : DataW H := .iface "func table" (.agg [.agg [.iface "func" (.lit (.string [112, 111, 115, 116, 105, 108, 47, 118, 111, 116, 101, 46, 97, 115, 107, 101, 100, 36, 49]))], .agg [.iface "func" (.lit (.string [112, 111, 115, 116, 105, 108, 47, 118, 111, 116, 101, 46, 97, 115, 107, 101, 100, 36, 50]))], .agg [.iface "func" (.lit (.string [112, 111, 115, 116, 105, 108, 47, 118, 111, 116, 101, 46, 97, 115, 107, 101, 100, 36, 51]))], .agg [.iface "func" (.lit (.string [112, 111, 115, 116, 105, 108, 47, 118, 111, 116, 101, 46, 97, 115, 107, 101, 100, 36, 52]))], .agg [.iface "func" (.lit (.string [112, 111, 115, 116, 105, 108, 47, 118, 111, 116, 101, 46, 97, 115, 107, 101, 100, 36, 53]))]])

/-- 'postillaw07.VoteTells': WHATEVER THE INPUT: true; the input reads as it did. -/
def voteTellsSpec : ChangeSpec := { name := "voteTells", fn := fun _ => fun
  | [d1, d2, d3] => { results := [.lit (.bool true)], args := [d1, d2, d3] }
  | _ => none }
def voteTellsRow : OpenClaim := { program := "ytfpiiheehdedmaagreatdoor", sum := "a5511f27098a9603a422edd9bab2f3feacdac72935ee3c723fe062485193a7ef", func := "postil/postillaw07.VoteTells", spec := "voteTells", unfollowed := true, recurses := true, named := ["postil/vote.asked", "postil/stem.kinds"], plainKeys := false, apart := false, laid := [("postil/stem.kinds", laid_postil_stem_kinds), ("postil/vote.asked", laid_postil_vote_asked)] }
def VoteTellsSaid : Prop := voteTellsRow.holds Tryz.pinned (OpenSpec.ofChange voteTellsSpec)

/-- ITS FALSE NEIGHBOUR: 'it returns false'. Refute it at one input. -/
def voteTellsWrong : ChangeSpec := { name := "voteTells", fn := fun _ => fun
  | [d1, d2, d3] => { results := [.lit (.bool false)], args := [d1, d2, d3] }
  | _ => none }
def VoteTellsWrongFalsely : Prop := voteTellsRow.holds Tryz.pinned (OpenSpec.ofChange voteTellsWrong)

/-- 'postillaw07.VoteDecides': WHATEVER THE INPUT: true; the input reads as it did. -/
def voteDecidesSpec : ChangeSpec := { name := "voteDecides", fn := fun _ => fun
  | [d] => { results := [.lit (.bool true)], args := [d] }
  | _ => none }
def voteDecidesRow : OpenClaim := { program := "ytfpiiheehdedmaagreatdoor", sum := "a5511f27098a9603a422edd9bab2f3feacdac72935ee3c723fe062485193a7ef", func := "postil/postillaw07.VoteDecides", spec := "voteDecides", unfollowed := true, recurses := true, named := ["postil/vote.asked", "postil/stem.kinds"], plainKeys := false, apart := false, laid := [("postil/stem.kinds", laid_postil_stem_kinds), ("postil/vote.asked", laid_postil_vote_asked)] }
def VoteDecidesSaid : Prop := voteDecidesRow.holds Tryz.pinned (OpenSpec.ofChange voteDecidesSpec)

/-- ITS FALSE NEIGHBOUR: 'it returns false'. Refute it at one input. -/
def voteDecidesWrong : ChangeSpec := { name := "voteDecides", fn := fun _ => fun
  | [d] => { results := [.lit (.bool false)], args := [d] }
  | _ => none }
def VoteDecidesWrongFalsely : Prop := voteDecidesRow.holds Tryz.pinned (OpenSpec.ofChange voteDecidesWrong)

/-- 'postillaw07.VoteExamples': WHATEVER THE INPUT: true; the input reads as it did. -/
def voteExamplesSpec : ChangeSpec := { name := "voteExamples", fn := fun _ => fun
  | [] => { results := [.lit (.bool true)], args := [] }
  | _ => none }
def voteExamplesRow : OpenClaim := { program := "ytfpiiheehdedmaagreatdoor", sum := "a5511f27098a9603a422edd9bab2f3feacdac72935ee3c723fe062485193a7ef", func := "postil/postillaw07.VoteExamples", spec := "voteExamples", unfollowed := true, recurses := true, named := ["postil/vote.asked", "postil/stem.kinds"], plainKeys := false, apart := false, laid := [("postil/stem.kinds", laid_postil_stem_kinds), ("postil/vote.asked", laid_postil_vote_asked)] }
def VoteExamplesSaid : Prop := voteExamplesRow.holds Tryz.pinned (OpenSpec.ofChange voteExamplesSpec)

/-- ITS FALSE NEIGHBOUR: 'it returns false'. Refute it at one input. -/
def voteExamplesWrong : ChangeSpec := { name := "voteExamples", fn := fun _ => fun
  | [] => { results := [.lit (.bool false)], args := [] }
  | _ => none }
def VoteExamplesWrongFalsely : Prop := voteExamplesRow.holds Tryz.pinned (OpenSpec.ofChange voteExamplesWrong)

/-- 'postillaw07.VoteTrue': WHATEVER THE INPUT: true; the input reads as it did. -/
def voteTrueSpec : ChangeSpec := { name := "voteTrue", fn := fun _ => fun
  | [d1, d2] => { results := [.lit (.bool true)], args := [d1, d2] }
  | _ => none }
def voteTrueRow : OpenClaim := { program := "ytfpiiheehdedmaagreatdoor", sum := "a5511f27098a9603a422edd9bab2f3feacdac72935ee3c723fe062485193a7ef", func := "postil/postillaw07.VoteTrue", spec := "voteTrue", unfollowed := true, recurses := true, named := ["postil/vote.asked", "postil/stem.kinds"], plainKeys := false, apart := false, laid := [("postil/stem.kinds", laid_postil_stem_kinds), ("postil/vote.asked", laid_postil_vote_asked)] }
def VoteTrueSaid : Prop := voteTrueRow.holds Tryz.pinned (OpenSpec.ofChange voteTrueSpec)

/-- ITS FALSE NEIGHBOUR: 'it returns false'. Refute it at one input. -/
def voteTrueWrong : ChangeSpec := { name := "voteTrue", fn := fun _ => fun
  | [d1, d2] => { results := [.lit (.bool false)], args := [d1, d2] }
  | _ => none }
def VoteTrueWrongFalsely : Prop := voteTrueRow.holds Tryz.pinned (OpenSpec.ofChange voteTrueWrong)

/-- 'postillaw07.VoteEnds': WHATEVER THE INPUT: true; the input reads as it did. -/
def voteEndsSpec : ChangeSpec := { name := "voteEnds", fn := fun _ => fun
  | [d] => { results := [.lit (.bool true)], args := [d] }
  | _ => none }
def voteEndsRow : OpenClaim := { program := "ytfpiiheehdedmaagreatdoor", sum := "a5511f27098a9603a422edd9bab2f3feacdac72935ee3c723fe062485193a7ef", func := "postil/postillaw07.VoteEnds", spec := "voteEnds", unfollowed := true, recurses := true, named := ["postil/vote.asked", "postil/stem.kinds"], plainKeys := false, apart := false, laid := [("postil/stem.kinds", laid_postil_stem_kinds), ("postil/vote.asked", laid_postil_vote_asked)] }
def VoteEndsSaid : Prop := voteEndsRow.holds Tryz.pinned (OpenSpec.ofChange voteEndsSpec)

/-- ITS FALSE NEIGHBOUR: 'it returns false'. Refute it at one input. -/
def voteEndsWrong : ChangeSpec := { name := "voteEnds", fn := fun _ => fun
  | [d] => { results := [.lit (.bool false)], args := [d] }
  | _ => none }
def VoteEndsWrongFalsely : Prop := voteEndsRow.holds Tryz.pinned (OpenSpec.ofChange voteEndsWrong)

/-- 'postillaw07.VoteMore': WHATEVER THE INPUT: true; the input reads as it did. -/
def voteMoreSpec : ChangeSpec := { name := "voteMore", fn := fun _ => fun
  | [d1, d2] => { results := [.lit (.bool true)], args := [d1, d2] }
  | _ => none }
def voteMoreRow : OpenClaim := { program := "ytfpiiheehdedmaagreatdoor", sum := "a5511f27098a9603a422edd9bab2f3feacdac72935ee3c723fe062485193a7ef", func := "postil/postillaw07.VoteMore", spec := "voteMore", unfollowed := true, recurses := true, named := ["postil/vote.asked", "postil/stem.kinds"], plainKeys := false, apart := false, laid := [("postil/stem.kinds", laid_postil_stem_kinds), ("postil/vote.asked", laid_postil_vote_asked)] }
def VoteMoreSaid : Prop := voteMoreRow.holds Tryz.pinned (OpenSpec.ofChange voteMoreSpec)

/-- ITS FALSE NEIGHBOUR: 'it returns false'. Refute it at one input. -/
def voteMoreWrong : ChangeSpec := { name := "voteMore", fn := fun _ => fun
  | [d1, d2] => { results := [.lit (.bool false)], args := [d1, d2] }
  | _ => none }
def VoteMoreWrongFalsely : Prop := voteMoreRow.holds Tryz.pinned (OpenSpec.ofChange voteMoreWrong)

/-- 'postillaw07.VoteAsk': WHATEVER THE INPUT: true; the input reads as it did. -/
def voteAskSpec : ChangeSpec := { name := "voteAsk", fn := fun _ => fun
  | [d1, d2, d3] => { results := [.lit (.bool true)], args := [d1, d2, d3] }
  | _ => none }
def voteAskRow : OpenClaim := { program := "ytfpiiheehdedmaagreatdoor", sum := "a5511f27098a9603a422edd9bab2f3feacdac72935ee3c723fe062485193a7ef", func := "postil/postillaw07.VoteAsk", spec := "voteAsk", unfollowed := true, recurses := true, named := ["postil/vote.asked", "postil/stem.kinds"], plainKeys := false, apart := false, laid := [("postil/stem.kinds", laid_postil_stem_kinds), ("postil/vote.asked", laid_postil_vote_asked)] }
def VoteAskSaid : Prop := voteAskRow.holds Tryz.pinned (OpenSpec.ofChange voteAskSpec)

/-- ITS FALSE NEIGHBOUR: 'it returns false'. Refute it at one input. -/
def voteAskWrong : ChangeSpec := { name := "voteAsk", fn := fun _ => fun
  | [d1, d2, d3] => { results := [.lit (.bool false)], args := [d1, d2, d3] }
  | _ => none }
def VoteAskWrongFalsely : Prop := voteAskRow.holds Tryz.pinned (OpenSpec.ofChange voteAskWrong)

/-- 'postillaw07.VoteNext': WHATEVER THE INPUT: true; the input reads as it did. -/
def voteNextSpec : ChangeSpec := { name := "voteNext", fn := fun _ => fun
  | [d1, d2] => { results := [.lit (.bool true)], args := [d1, d2] }
  | _ => none }
def voteNextRow : OpenClaim := { program := "ytfpiiheehdedmaagreatdoor", sum := "a5511f27098a9603a422edd9bab2f3feacdac72935ee3c723fe062485193a7ef", func := "postil/postillaw07.VoteNext", spec := "voteNext", unfollowed := true, recurses := true, named := ["postil/vote.asked", "postil/stem.kinds"], plainKeys := false, apart := false, laid := [("postil/stem.kinds", laid_postil_stem_kinds), ("postil/vote.asked", laid_postil_vote_asked)] }
def VoteNextSaid : Prop := voteNextRow.holds Tryz.pinned (OpenSpec.ofChange voteNextSpec)

/-- ITS FALSE NEIGHBOUR: 'it returns false'. Refute it at one input. -/
def voteNextWrong : ChangeSpec := { name := "voteNext", fn := fun _ => fun
  | [d1, d2] => { results := [.lit (.bool false)], args := [d1, d2] }
  | _ => none }
def VoteNextWrongFalsely : Prop := voteNextRow.holds Tryz.pinned (OpenSpec.ofChange voteNextWrong)

/-- 'postillaw07.VoteSure': WHATEVER THE INPUT: true; the input reads as it did. -/
def voteSureSpec : ChangeSpec := { name := "voteSure", fn := fun _ => fun
  | [d1, d2] => { results := [.lit (.bool true)], args := [d1, d2] }
  | _ => none }
def voteSureRow : OpenClaim := { program := "ytfpiiheehdedmaagreatdoor", sum := "a5511f27098a9603a422edd9bab2f3feacdac72935ee3c723fe062485193a7ef", func := "postil/postillaw07.VoteSure", spec := "voteSure", unfollowed := true, recurses := true, named := ["postil/vote.asked", "postil/stem.kinds"], plainKeys := false, apart := false, laid := [("postil/stem.kinds", laid_postil_stem_kinds), ("postil/vote.asked", laid_postil_vote_asked)] }
def VoteSureSaid : Prop := voteSureRow.holds Tryz.pinned (OpenSpec.ofChange voteSureSpec)

/-- ITS FALSE NEIGHBOUR: 'it returns false'. Refute it at one input. -/
def voteSureWrong : ChangeSpec := { name := "voteSure", fn := fun _ => fun
  | [d1, d2] => { results := [.lit (.bool false)], args := [d1, d2] }
  | _ => none }
def VoteSureWrongFalsely : Prop := voteSureRow.holds Tryz.pinned (OpenSpec.ofChange voteSureWrong)

/-- 'postillaw07.VoteOrder': WHATEVER THE INPUT: true; the input reads as it did. -/
def voteOrderSpec : ChangeSpec := { name := "voteOrder", fn := fun _ => fun
  | [d1, d2] => { results := [.lit (.bool true)], args := [d1, d2] }
  | _ => none }
def voteOrderRow : OpenClaim := { program := "ytfpiiheehdedmaagreatdoor", sum := "a5511f27098a9603a422edd9bab2f3feacdac72935ee3c723fe062485193a7ef", func := "postil/postillaw07.VoteOrder", spec := "voteOrder", unfollowed := true, recurses := true, named := ["postil/vote.asked", "postil/stem.kinds"], plainKeys := false, apart := false, laid := [("postil/stem.kinds", laid_postil_stem_kinds), ("postil/vote.asked", laid_postil_vote_asked)] }
def VoteOrderSaid : Prop := voteOrderRow.holds Tryz.pinned (OpenSpec.ofChange voteOrderSpec)

/-- ITS FALSE NEIGHBOUR: 'it returns false'. Refute it at one input. -/
def voteOrderWrong : ChangeSpec := { name := "voteOrder", fn := fun _ => fun
  | [d1, d2] => { results := [.lit (.bool false)], args := [d1, d2] }
  | _ => none }
def VoteOrderWrongFalsely : Prop := voteOrderRow.holds Tryz.pinned (OpenSpec.ofChange voteOrderWrong)

/-- 'postillaw07.VoteWrongs': WHATEVER THE INPUT: true; the input reads as it did. -/
def voteWrongsSpec : ChangeSpec := { name := "voteWrongs", fn := fun _ => fun
  | [d1, d2] => { results := [.lit (.bool true)], args := [d1, d2] }
  | _ => none }
def voteWrongsRow : OpenClaim := { program := "ytfpiiheehdedmaagreatdoor", sum := "a5511f27098a9603a422edd9bab2f3feacdac72935ee3c723fe062485193a7ef", func := "postil/postillaw07.VoteWrongs", spec := "voteWrongs", unfollowed := true, recurses := true, named := ["postil/vote.asked", "postil/stem.kinds"], plainKeys := false, apart := false, laid := [("postil/stem.kinds", laid_postil_stem_kinds), ("postil/vote.asked", laid_postil_vote_asked)] }
def VoteWrongsSaid : Prop := voteWrongsRow.holds Tryz.pinned (OpenSpec.ofChange voteWrongsSpec)

/-- ITS FALSE NEIGHBOUR: 'it returns false'. Refute it at one input. -/
def voteWrongsWrong : ChangeSpec := { name := "voteWrongs", fn := fun _ => fun
  | [d1, d2] => { results := [.lit (.bool false)], args := [d1, d2] }
  | _ => none }
def VoteWrongsWrongFalsely : Prop := voteWrongsRow.holds Tryz.pinned (OpenSpec.ofChange voteWrongsWrong)

/-- 'postillaw07.VoteTally': WHATEVER THE INPUT: true; the input reads as it did. -/
def voteTallySpec : ChangeSpec := { name := "voteTally", fn := fun _ => fun
  | [d1, d2] => { results := [.lit (.bool true)], args := [d1, d2] }
  | _ => none }
def voteTallyRow : OpenClaim := { program := "ytfpiiheehdedmaagreatdoor", sum := "a5511f27098a9603a422edd9bab2f3feacdac72935ee3c723fe062485193a7ef", func := "postil/postillaw07.VoteTally", spec := "voteTally", unfollowed := true, recurses := true, named := ["postil/vote.asked", "postil/stem.kinds"], plainKeys := false, apart := false, laid := [("postil/stem.kinds", laid_postil_stem_kinds), ("postil/vote.asked", laid_postil_vote_asked)] }
def VoteTallySaid : Prop := voteTallyRow.holds Tryz.pinned (OpenSpec.ofChange voteTallySpec)

/-- ITS FALSE NEIGHBOUR: 'it returns false'. Refute it at one input. -/
def voteTallyWrong : ChangeSpec := { name := "voteTally", fn := fun _ => fun
  | [d1, d2] => { results := [.lit (.bool false)], args := [d1, d2] }
  | _ => none }
def VoteTallyWrongFalsely : Prop := voteTallyRow.holds Tryz.pinned (OpenSpec.ofChange voteTallyWrong)

/- THE SECOND FORM. 'bulk': how many values and letters a reading holds, each counted each time it is reached (what is shared counts as often as it is met; a slice's spare places count too). A statement '..UptoSaid' is the law's where the arguments, and the package variables that the reading takes, are together of bulk at most 1048576: NARROWER than '..Said'. Prove '..Said' where nothing that the law and all that it calls make is longer than what came in: it says more and counts as full. Else prove '..UptoSaid'. A law counts once. -/
mutual
def uptoBulk {H : Type} : DataW H → Nat
  | .lit (.string bytes) => bytes.length + 1
  | .lit _ => 1
  | .nil => 1
  | .ptr d => uptoBulk d + 1
  | .slice elems spare => uptoBulkAll elems + uptoBulkAll spare + 1
  | .agg parts => uptoBulkAll parts + 1
  | .iface _ d => uptoBulk d + 1
  | .map entries => uptoBulkEntries entries + 1
  | .held _ => 1
def uptoBulkAll {H : Type} : List (DataW H) → Nat
  | [] => 0
  | d :: r => uptoBulk d + uptoBulkAll r
def uptoBulkEntries {H : Type} : List (Lit × DataW H) → Nat
  | [] => 0
  | x :: r => uptoBulkEntry x + uptoBulkEntries r
def uptoBulkEntry {H : Type} : Lit × DataW H → Nat
  | (.string bytes, d) => bytes.length + uptoBulk d + 1
  | (_, d) => uptoBulk d + 1
 end
def uptoSmall : (H : Type) → List (DataW H) → Bool := fun _ ds => decide (uptoBulkAll ds ≤ 1048576)
def OpenSpec.upto (s : _root_.Go.ChangeSpec) : _root_.Go.OpenSpec := { _root_.Go.OpenSpec.ofChange s with cond := some uptoSmall }

/-- 'postillaw07.VoteTells', WHERE WHAT IT READS IS OF BULK AT MOST 1048576: true; the input reads as it did. -/
def voteTellsUptoRow : OpenClaim := { program := "ytfpiiheehdedmaagreatdoor", sum := "a5511f27098a9603a422edd9bab2f3feacdac72935ee3c723fe062485193a7ef", func := "postil/postillaw07.VoteTells", spec := "voteTells", unfollowed := true, recurses := true, named := ["postil/vote.asked", "postil/stem.kinds"], plainKeys := false, apart := false, laid := [("postil/stem.kinds", laid_postil_stem_kinds), ("postil/vote.asked", laid_postil_vote_asked)], narrowed := true }
def VoteTellsUptoSaid : Prop := voteTellsUptoRow.holds Tryz.pinned (OpenSpec.upto voteTellsSpec)

/-- 'postillaw07.VoteDecides', WHERE WHAT IT READS IS OF BULK AT MOST 1048576: true; the input reads as it did. -/
def voteDecidesUptoRow : OpenClaim := { program := "ytfpiiheehdedmaagreatdoor", sum := "a5511f27098a9603a422edd9bab2f3feacdac72935ee3c723fe062485193a7ef", func := "postil/postillaw07.VoteDecides", spec := "voteDecides", unfollowed := true, recurses := true, named := ["postil/vote.asked", "postil/stem.kinds"], plainKeys := false, apart := false, laid := [("postil/stem.kinds", laid_postil_stem_kinds), ("postil/vote.asked", laid_postil_vote_asked)], narrowed := true }
def VoteDecidesUptoSaid : Prop := voteDecidesUptoRow.holds Tryz.pinned (OpenSpec.upto voteDecidesSpec)

/-- 'postillaw07.VoteExamples', WHERE WHAT IT READS IS OF BULK AT MOST 1048576: true; the input reads as it did. -/
def voteExamplesUptoRow : OpenClaim := { program := "ytfpiiheehdedmaagreatdoor", sum := "a5511f27098a9603a422edd9bab2f3feacdac72935ee3c723fe062485193a7ef", func := "postil/postillaw07.VoteExamples", spec := "voteExamples", unfollowed := true, recurses := true, named := ["postil/vote.asked", "postil/stem.kinds"], plainKeys := false, apart := false, laid := [("postil/stem.kinds", laid_postil_stem_kinds), ("postil/vote.asked", laid_postil_vote_asked)], narrowed := true }
def VoteExamplesUptoSaid : Prop := voteExamplesUptoRow.holds Tryz.pinned (OpenSpec.upto voteExamplesSpec)

/-- 'postillaw07.VoteTrue', WHERE WHAT IT READS IS OF BULK AT MOST 1048576: true; the input reads as it did. -/
def voteTrueUptoRow : OpenClaim := { program := "ytfpiiheehdedmaagreatdoor", sum := "a5511f27098a9603a422edd9bab2f3feacdac72935ee3c723fe062485193a7ef", func := "postil/postillaw07.VoteTrue", spec := "voteTrue", unfollowed := true, recurses := true, named := ["postil/vote.asked", "postil/stem.kinds"], plainKeys := false, apart := false, laid := [("postil/stem.kinds", laid_postil_stem_kinds), ("postil/vote.asked", laid_postil_vote_asked)], narrowed := true }
def VoteTrueUptoSaid : Prop := voteTrueUptoRow.holds Tryz.pinned (OpenSpec.upto voteTrueSpec)

/-- 'postillaw07.VoteEnds', WHERE WHAT IT READS IS OF BULK AT MOST 1048576: true; the input reads as it did. -/
def voteEndsUptoRow : OpenClaim := { program := "ytfpiiheehdedmaagreatdoor", sum := "a5511f27098a9603a422edd9bab2f3feacdac72935ee3c723fe062485193a7ef", func := "postil/postillaw07.VoteEnds", spec := "voteEnds", unfollowed := true, recurses := true, named := ["postil/vote.asked", "postil/stem.kinds"], plainKeys := false, apart := false, laid := [("postil/stem.kinds", laid_postil_stem_kinds), ("postil/vote.asked", laid_postil_vote_asked)], narrowed := true }
def VoteEndsUptoSaid : Prop := voteEndsUptoRow.holds Tryz.pinned (OpenSpec.upto voteEndsSpec)

/-- 'postillaw07.VoteMore', WHERE WHAT IT READS IS OF BULK AT MOST 1048576: true; the input reads as it did. -/
def voteMoreUptoRow : OpenClaim := { program := "ytfpiiheehdedmaagreatdoor", sum := "a5511f27098a9603a422edd9bab2f3feacdac72935ee3c723fe062485193a7ef", func := "postil/postillaw07.VoteMore", spec := "voteMore", unfollowed := true, recurses := true, named := ["postil/vote.asked", "postil/stem.kinds"], plainKeys := false, apart := false, laid := [("postil/stem.kinds", laid_postil_stem_kinds), ("postil/vote.asked", laid_postil_vote_asked)], narrowed := true }
def VoteMoreUptoSaid : Prop := voteMoreUptoRow.holds Tryz.pinned (OpenSpec.upto voteMoreSpec)

/-- 'postillaw07.VoteAsk', WHERE WHAT IT READS IS OF BULK AT MOST 1048576: true; the input reads as it did. -/
def voteAskUptoRow : OpenClaim := { program := "ytfpiiheehdedmaagreatdoor", sum := "a5511f27098a9603a422edd9bab2f3feacdac72935ee3c723fe062485193a7ef", func := "postil/postillaw07.VoteAsk", spec := "voteAsk", unfollowed := true, recurses := true, named := ["postil/vote.asked", "postil/stem.kinds"], plainKeys := false, apart := false, laid := [("postil/stem.kinds", laid_postil_stem_kinds), ("postil/vote.asked", laid_postil_vote_asked)], narrowed := true }
def VoteAskUptoSaid : Prop := voteAskUptoRow.holds Tryz.pinned (OpenSpec.upto voteAskSpec)

/-- 'postillaw07.VoteNext', WHERE WHAT IT READS IS OF BULK AT MOST 1048576: true; the input reads as it did. -/
def voteNextUptoRow : OpenClaim := { program := "ytfpiiheehdedmaagreatdoor", sum := "a5511f27098a9603a422edd9bab2f3feacdac72935ee3c723fe062485193a7ef", func := "postil/postillaw07.VoteNext", spec := "voteNext", unfollowed := true, recurses := true, named := ["postil/vote.asked", "postil/stem.kinds"], plainKeys := false, apart := false, laid := [("postil/stem.kinds", laid_postil_stem_kinds), ("postil/vote.asked", laid_postil_vote_asked)], narrowed := true }
def VoteNextUptoSaid : Prop := voteNextUptoRow.holds Tryz.pinned (OpenSpec.upto voteNextSpec)

/-- 'postillaw07.VoteSure', WHERE WHAT IT READS IS OF BULK AT MOST 1048576: true; the input reads as it did. -/
def voteSureUptoRow : OpenClaim := { program := "ytfpiiheehdedmaagreatdoor", sum := "a5511f27098a9603a422edd9bab2f3feacdac72935ee3c723fe062485193a7ef", func := "postil/postillaw07.VoteSure", spec := "voteSure", unfollowed := true, recurses := true, named := ["postil/vote.asked", "postil/stem.kinds"], plainKeys := false, apart := false, laid := [("postil/stem.kinds", laid_postil_stem_kinds), ("postil/vote.asked", laid_postil_vote_asked)], narrowed := true }
def VoteSureUptoSaid : Prop := voteSureUptoRow.holds Tryz.pinned (OpenSpec.upto voteSureSpec)

/-- 'postillaw07.VoteOrder', WHERE WHAT IT READS IS OF BULK AT MOST 1048576: true; the input reads as it did. -/
def voteOrderUptoRow : OpenClaim := { program := "ytfpiiheehdedmaagreatdoor", sum := "a5511f27098a9603a422edd9bab2f3feacdac72935ee3c723fe062485193a7ef", func := "postil/postillaw07.VoteOrder", spec := "voteOrder", unfollowed := true, recurses := true, named := ["postil/vote.asked", "postil/stem.kinds"], plainKeys := false, apart := false, laid := [("postil/stem.kinds", laid_postil_stem_kinds), ("postil/vote.asked", laid_postil_vote_asked)], narrowed := true }
def VoteOrderUptoSaid : Prop := voteOrderUptoRow.holds Tryz.pinned (OpenSpec.upto voteOrderSpec)

/-- 'postillaw07.VoteWrongs', WHERE WHAT IT READS IS OF BULK AT MOST 1048576: true; the input reads as it did. -/
def voteWrongsUptoRow : OpenClaim := { program := "ytfpiiheehdedmaagreatdoor", sum := "a5511f27098a9603a422edd9bab2f3feacdac72935ee3c723fe062485193a7ef", func := "postil/postillaw07.VoteWrongs", spec := "voteWrongs", unfollowed := true, recurses := true, named := ["postil/vote.asked", "postil/stem.kinds"], plainKeys := false, apart := false, laid := [("postil/stem.kinds", laid_postil_stem_kinds), ("postil/vote.asked", laid_postil_vote_asked)], narrowed := true }
def VoteWrongsUptoSaid : Prop := voteWrongsUptoRow.holds Tryz.pinned (OpenSpec.upto voteWrongsSpec)

/-- 'postillaw07.VoteTally', WHERE WHAT IT READS IS OF BULK AT MOST 1048576: true; the input reads as it did. -/
def voteTallyUptoRow : OpenClaim := { program := "ytfpiiheehdedmaagreatdoor", sum := "a5511f27098a9603a422edd9bab2f3feacdac72935ee3c723fe062485193a7ef", func := "postil/postillaw07.VoteTally", spec := "voteTally", unfollowed := true, recurses := true, named := ["postil/vote.asked", "postil/stem.kinds"], plainKeys := false, apart := false, laid := [("postil/stem.kinds", laid_postil_stem_kinds), ("postil/vote.asked", laid_postil_vote_asked)], narrowed := true }
def VoteTallyUptoSaid : Prop := voteTallyUptoRow.holds Tryz.pinned (OpenSpec.upto voteTallySpec)

end Rows
end Go.Proofs.YtfpiiheehdedmaaGreatDoor
