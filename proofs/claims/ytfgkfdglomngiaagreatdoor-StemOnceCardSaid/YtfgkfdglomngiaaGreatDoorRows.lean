/-
  NARROWER THAN 'FOR EVERY INPUT', by the rows' own cells (each row's printed sentence says how): StemConcerned: laid · StemOrder: laid · StemSteps: laid · StemWins: laid · StemVoid: laid · StemIdle: laid · StemExamples: laid · StemHomographs: laid · StemOnce: laid · StemCopies: laid.
  DERIVED. THE GIVEN ROWS OF THIS SEAT. 10 by the template 'for every input the law returns true; each argument reads behind the call as it read before'; 0 by the template 'total and deterministic' (their statements: YtfgkfdglomngiaaGreatDoorTotals.lean).
  GIVEN WITH THE SEED: the statements are not yours to turn. If you find one false, say at which input.
  Laid BY PROGRAM, IN A SANDBOX (cutbox-rows.mjs): the forced cells as the released guide's own fill.sh prints them over the translation b73e79454fadea47… (all of the seat's roots in one cut). By AI agents, Wed Nov 11 2026. No macro, syntax, notation, axiom, sorry.
-/
import Derived.Test.YtfgkfdglomngiaaGreatDoorChecked
import GoSem.Claim
import GoSem.ClaimJoined
import GoSem.ClaimMapViews
import Derived.JoinedTies
import Derived.KernelRfl
namespace Go.Proofs.YtfgkfdglomngiaaGreatDoor
/- THE CELL 'sum', in the pinned program and in every row, IS THE sha256 OF THE DUMP (.gsa) THAT YtfgkfdglomngiaaGreatDoorProg.lean LOADS. Nothing in Lean hashes anything: it is a label: what it is worth is what the hold of that sum in a sandbox is worth. -/
noncomputable def Tryz.pinned : Pinned := { name := "ytfgkfdglomngiaagreatdoor", sum := "b73e79454fadea474954af70397c3cb5722c856a0c66d40ed2175c08fc8deda9", checked := Tryz.checked }
namespace Rows
def none {H : Type} : Left H := { results := [], args := [] }

/- WHAT THE LISTED PACKAGE-LEVEL VARIABLES READ AS WHEN THE CALL BEGINS. Each datum BY PROGRAM (the guide's laid-datum.mjs) off the statement by which the dump's own 'gosem.cut.vars' lays the variable. In a bare row this is a premise. The card (YtfgkfdglomngiaaGreatDoorCards.lean) ties it to the program's text. -/
def laid_postil_stem_kinds {H : Type} : DataW H := .iface "func table" (.agg [.agg [.lit (.bool false), .lit (.bool false), .lit (.bool false), .lit (.bool false), .nil], .agg [.lit (.bool true), .lit (.bool false), .lit (.bool true), .lit (.bool false), .iface "func" (.lit (.string [112, 111, 115, 116, 105, 108, 47, 115, 116, 101, 109, 46, 107, 105, 110, 100, 115, 36, 49]))], .agg [.lit (.bool true), .lit (.bool true), .lit (.bool true), .lit (.bool false), .iface "func" (.lit (.string [112, 111, 115, 116, 105, 108, 47, 115, 116, 101, 109, 46, 107, 105, 110, 100, 115, 36, 50]))], .agg [.lit (.bool false), .lit (.bool true), .lit (.bool true), .lit (.bool false), .iface "func" (.lit (.string [112, 111, 115, 116, 105, 108, 47, 115, 116, 101, 109, 46, 107, 105, 110, 100, 115, 36, 51]))], .agg [.lit (.bool false), .lit (.bool false), .lit (.bool false), .lit (.bool true), .iface "func" (.lit (.string [112, 111, 115, 116, 105, 108, 47, 115, 116, 101, 109, 46, 107, 105, 110, 100, 115, 36, 52]))]])
def laid_postil_leaf_kinds {H : Type} : DataW H := .iface "func table" (.agg [.agg [.lit (.int .i64 0), .nil, .nil], .agg [.lit (.int .i64 0), .iface "func" (.lit (.string [112, 111, 115, 116, 105, 108, 47, 108, 101, 97, 102, 46, 107, 105, 110, 100, 115, 36, 49])), .iface "func" (.lit (.string [112, 111, 115, 116, 105, 108, 47, 108, 101, 97, 102, 46, 107, 105, 110, 100, 115, 36, 50]))], .agg [.lit (.int .i64 1), .iface "func" (.lit (.string [112, 111, 115, 116, 105, 108, 47, 108, 101, 97, 102, 46, 107, 105, 110, 100, 115, 36, 51])), .iface "func" (.lit (.string [112, 111, 115, 116, 105, 108, 47, 108, 101, 97, 102, 46, 107, 105, 110, 100, 115, 36, 52]))], .agg [.lit (.int .i64 0), .iface "func" (.lit (.string [112, 111, 115, 116, 105, 108, 47, 108, 101, 97, 102, 46, 107, 105, 110, 100, 115, 36, 53])), .iface "func" (.lit (.string [112, 111, 115, 116, 105, 108, 47, 108, 101, 97, 102, 46, 107, 105, 110, 100, 115, 36, 54]))]])

/-- 'postillaw04.StemConcerned': WHATEVER THE INPUT: true; the input reads as it did. -/
def stemConcernedSpec : ChangeSpec := { name := "stemConcerned", fn := fun _ => fun
  | [d1, d2, d3] => { results := [.lit (.bool true)], args := [d1, d2, d3] }
  | _ => none }
def stemConcernedRow : OpenClaim := { program := "ytfgkfdglomngiaagreatdoor", sum := "b73e79454fadea474954af70397c3cb5722c856a0c66d40ed2175c08fc8deda9", func := "postil/postillaw04.StemConcerned", spec := "stemConcerned", unfollowed := true, recurses := true, named := ["postil/stem.kinds"], plainKeys := false, apart := false, laid := [("postil/stem.kinds", laid_postil_stem_kinds)] }
def StemConcernedSaid : Prop := stemConcernedRow.holds Tryz.pinned (OpenSpec.ofChange stemConcernedSpec)

/-- ITS FALSE NEIGHBOUR: 'it returns false'. Refute it at one input. -/
def stemConcernedWrong : ChangeSpec := { name := "stemConcerned", fn := fun _ => fun
  | [d1, d2, d3] => { results := [.lit (.bool false)], args := [d1, d2, d3] }
  | _ => none }
def StemConcernedWrongFalsely : Prop := stemConcernedRow.holds Tryz.pinned (OpenSpec.ofChange stemConcernedWrong)

/-- 'postillaw04.StemOrder': WHATEVER THE INPUT: true; the input reads as it did. -/
def stemOrderSpec : ChangeSpec := { name := "stemOrder", fn := fun _ => fun
  | [d1, d2, d3] => { results := [.lit (.bool true)], args := [d1, d2, d3] }
  | _ => none }
def stemOrderRow : OpenClaim := { program := "ytfgkfdglomngiaagreatdoor", sum := "b73e79454fadea474954af70397c3cb5722c856a0c66d40ed2175c08fc8deda9", func := "postil/postillaw04.StemOrder", spec := "stemOrder", unfollowed := true, recurses := true, named := ["postil/stem.kinds"], plainKeys := false, apart := false, laid := [("postil/stem.kinds", laid_postil_stem_kinds)] }
def StemOrderSaid : Prop := stemOrderRow.holds Tryz.pinned (OpenSpec.ofChange stemOrderSpec)

/-- ITS FALSE NEIGHBOUR: 'it returns false'. Refute it at one input. -/
def stemOrderWrong : ChangeSpec := { name := "stemOrder", fn := fun _ => fun
  | [d1, d2, d3] => { results := [.lit (.bool false)], args := [d1, d2, d3] }
  | _ => none }
def StemOrderWrongFalsely : Prop := stemOrderRow.holds Tryz.pinned (OpenSpec.ofChange stemOrderWrong)

/-- 'postillaw04.StemSteps': WHATEVER THE INPUT: true; the input reads as it did. -/
def stemStepsSpec : ChangeSpec := { name := "stemSteps", fn := fun _ => fun
  | [d1, d2, d3] => { results := [.lit (.bool true)], args := [d1, d2, d3] }
  | _ => none }
def stemStepsRow : OpenClaim := { program := "ytfgkfdglomngiaagreatdoor", sum := "b73e79454fadea474954af70397c3cb5722c856a0c66d40ed2175c08fc8deda9", func := "postil/postillaw04.StemSteps", spec := "stemSteps", unfollowed := true, recurses := true, named := ["postil/stem.kinds"], plainKeys := false, apart := false, laid := [("postil/stem.kinds", laid_postil_stem_kinds)] }
def StemStepsSaid : Prop := stemStepsRow.holds Tryz.pinned (OpenSpec.ofChange stemStepsSpec)

/-- ITS FALSE NEIGHBOUR: 'it returns false'. Refute it at one input. -/
def stemStepsWrong : ChangeSpec := { name := "stemSteps", fn := fun _ => fun
  | [d1, d2, d3] => { results := [.lit (.bool false)], args := [d1, d2, d3] }
  | _ => none }
def StemStepsWrongFalsely : Prop := stemStepsRow.holds Tryz.pinned (OpenSpec.ofChange stemStepsWrong)

/-- 'postillaw04.StemWins': WHATEVER THE INPUT: true; the input reads as it did. -/
def stemWinsSpec : ChangeSpec := { name := "stemWins", fn := fun _ => fun
  | [d1, d2, d3] => { results := [.lit (.bool true)], args := [d1, d2, d3] }
  | _ => none }
def stemWinsRow : OpenClaim := { program := "ytfgkfdglomngiaagreatdoor", sum := "b73e79454fadea474954af70397c3cb5722c856a0c66d40ed2175c08fc8deda9", func := "postil/postillaw04.StemWins", spec := "stemWins", unfollowed := true, recurses := true, named := ["postil/stem.kinds"], plainKeys := false, apart := false, laid := [("postil/stem.kinds", laid_postil_stem_kinds)] }
def StemWinsSaid : Prop := stemWinsRow.holds Tryz.pinned (OpenSpec.ofChange stemWinsSpec)

/-- ITS FALSE NEIGHBOUR: 'it returns false'. Refute it at one input. -/
def stemWinsWrong : ChangeSpec := { name := "stemWins", fn := fun _ => fun
  | [d1, d2, d3] => { results := [.lit (.bool false)], args := [d1, d2, d3] }
  | _ => none }
def StemWinsWrongFalsely : Prop := stemWinsRow.holds Tryz.pinned (OpenSpec.ofChange stemWinsWrong)

/-- 'postillaw04.StemVoid': WHATEVER THE INPUT: true; the input reads as it did. -/
def stemVoidSpec : ChangeSpec := { name := "stemVoid", fn := fun _ => fun
  | [d1, d2, d3] => { results := [.lit (.bool true)], args := [d1, d2, d3] }
  | _ => none }
def stemVoidRow : OpenClaim := { program := "ytfgkfdglomngiaagreatdoor", sum := "b73e79454fadea474954af70397c3cb5722c856a0c66d40ed2175c08fc8deda9", func := "postil/postillaw04.StemVoid", spec := "stemVoid", unfollowed := true, recurses := true, named := ["postil/stem.kinds"], plainKeys := false, apart := false, laid := [("postil/stem.kinds", laid_postil_stem_kinds)] }
def StemVoidSaid : Prop := stemVoidRow.holds Tryz.pinned (OpenSpec.ofChange stemVoidSpec)

/-- ITS FALSE NEIGHBOUR: 'it returns false'. Refute it at one input. -/
def stemVoidWrong : ChangeSpec := { name := "stemVoid", fn := fun _ => fun
  | [d1, d2, d3] => { results := [.lit (.bool false)], args := [d1, d2, d3] }
  | _ => none }
def StemVoidWrongFalsely : Prop := stemVoidRow.holds Tryz.pinned (OpenSpec.ofChange stemVoidWrong)

/-- 'postillaw04.StemIdle': WHATEVER THE INPUT: true; the input reads as it did. -/
def stemIdleSpec : ChangeSpec := { name := "stemIdle", fn := fun _ => fun
  | [d1, d2, d3, d4] => { results := [.lit (.bool true)], args := [d1, d2, d3, d4] }
  | _ => none }
def stemIdleRow : OpenClaim := { program := "ytfgkfdglomngiaagreatdoor", sum := "b73e79454fadea474954af70397c3cb5722c856a0c66d40ed2175c08fc8deda9", func := "postil/postillaw04.StemIdle", spec := "stemIdle", unfollowed := true, recurses := true, named := ["postil/stem.kinds"], plainKeys := false, apart := false, laid := [("postil/stem.kinds", laid_postil_stem_kinds)] }
def StemIdleSaid : Prop := stemIdleRow.holds Tryz.pinned (OpenSpec.ofChange stemIdleSpec)

/-- ITS FALSE NEIGHBOUR: 'it returns false'. Refute it at one input. -/
def stemIdleWrong : ChangeSpec := { name := "stemIdle", fn := fun _ => fun
  | [d1, d2, d3, d4] => { results := [.lit (.bool false)], args := [d1, d2, d3, d4] }
  | _ => none }
def StemIdleWrongFalsely : Prop := stemIdleRow.holds Tryz.pinned (OpenSpec.ofChange stemIdleWrong)

/-- 'postillaw04.StemExamples': WHATEVER THE INPUT: true; the input reads as it did. -/
def stemExamplesSpec : ChangeSpec := { name := "stemExamples", fn := fun _ => fun
  | [] => { results := [.lit (.bool true)], args := [] }
  | _ => none }
def stemExamplesRow : OpenClaim := { program := "ytfgkfdglomngiaagreatdoor", sum := "b73e79454fadea474954af70397c3cb5722c856a0c66d40ed2175c08fc8deda9", func := "postil/postillaw04.StemExamples", spec := "stemExamples", inPlace := ["internal/bytealg.abigen_runtime_cmpstring"], unfollowed := true, recurses := true, named := ["postil/stem.kinds"], plainKeys := false, apart := false, laid := [("postil/stem.kinds", laid_postil_stem_kinds)] }
def StemExamplesSaid : Prop := stemExamplesRow.holds Tryz.pinned (OpenSpec.ofChange stemExamplesSpec)

/-- ITS FALSE NEIGHBOUR: 'it returns false'. Refute it at one input. -/
def stemExamplesWrong : ChangeSpec := { name := "stemExamples", fn := fun _ => fun
  | [] => { results := [.lit (.bool false)], args := [] }
  | _ => none }
def StemExamplesWrongFalsely : Prop := stemExamplesRow.holds Tryz.pinned (OpenSpec.ofChange stemExamplesWrong)

/-- 'postillaw04.StemHomographs': WHATEVER THE INPUT: true; the input reads as it did. -/
def stemHomographsSpec : ChangeSpec := { name := "stemHomographs", fn := fun _ => fun
  | [d1, d2, d3, d4] => { results := [.lit (.bool true)], args := [d1, d2, d3, d4] }
  | _ => none }
def stemHomographsRow : OpenClaim := { program := "ytfgkfdglomngiaagreatdoor", sum := "b73e79454fadea474954af70397c3cb5722c856a0c66d40ed2175c08fc8deda9", func := "postil/postillaw04.StemHomographs", spec := "stemHomographs", unfollowed := true, recurses := true, named := ["postil/stem.kinds"], plainKeys := false, apart := false, laid := [("postil/stem.kinds", laid_postil_stem_kinds)] }
def StemHomographsSaid : Prop := stemHomographsRow.holds Tryz.pinned (OpenSpec.ofChange stemHomographsSpec)

/-- ITS FALSE NEIGHBOUR: 'it returns false'. Refute it at one input. -/
def stemHomographsWrong : ChangeSpec := { name := "stemHomographs", fn := fun _ => fun
  | [d1, d2, d3, d4] => { results := [.lit (.bool false)], args := [d1, d2, d3, d4] }
  | _ => none }
def StemHomographsWrongFalsely : Prop := stemHomographsRow.holds Tryz.pinned (OpenSpec.ofChange stemHomographsWrong)

/-- 'postillaw04.StemOnce': WHATEVER THE INPUT: true; the input reads as it did. -/
def stemOnceSpec : ChangeSpec := { name := "stemOnce", fn := fun _ => fun
  | [d1, d2] => { results := [.lit (.bool true)], args := [d1, d2] }
  | _ => none }
def stemOnceRow : OpenClaim := { program := "ytfgkfdglomngiaagreatdoor", sum := "b73e79454fadea474954af70397c3cb5722c856a0c66d40ed2175c08fc8deda9", func := "postil/postillaw04.StemOnce", spec := "stemOnce", inPlace := ["internal/bytealg.abigen_runtime_cmpstring"], unfollowed := true, recurses := true, named := ["postil/stem.kinds"], plainKeys := false, apart := false, laid := [("postil/stem.kinds", laid_postil_stem_kinds)] }
def StemOnceSaid : Prop := stemOnceRow.holds Tryz.pinned (OpenSpec.ofChange stemOnceSpec)

/-- ITS FALSE NEIGHBOUR: 'it returns false'. Refute it at one input. -/
def stemOnceWrong : ChangeSpec := { name := "stemOnce", fn := fun _ => fun
  | [d1, d2] => { results := [.lit (.bool false)], args := [d1, d2] }
  | _ => none }
def StemOnceWrongFalsely : Prop := stemOnceRow.holds Tryz.pinned (OpenSpec.ofChange stemOnceWrong)

/-- 'postillaw04.StemCopies': WHATEVER THE INPUT: true; the input reads as it did. -/
def stemCopiesSpec : ChangeSpec := { name := "stemCopies", fn := fun _ => fun
  | [d1, d2, d3, d4] => { results := [.lit (.bool true)], args := [d1, d2, d3, d4] }
  | _ => none }
def stemCopiesRow : OpenClaim := { program := "ytfgkfdglomngiaagreatdoor", sum := "b73e79454fadea474954af70397c3cb5722c856a0c66d40ed2175c08fc8deda9", func := "postil/postillaw04.StemCopies", spec := "stemCopies", unfollowed := true, recurses := true, named := ["postil/stem.kinds", "postil/leaf.kinds"], plainKeys := false, apart := false, laid := [("postil/leaf.kinds", laid_postil_leaf_kinds), ("postil/stem.kinds", laid_postil_stem_kinds)] }
def StemCopiesSaid : Prop := stemCopiesRow.holds Tryz.pinned (OpenSpec.ofChange stemCopiesSpec)

/-- ITS FALSE NEIGHBOUR: 'it returns false'. Refute it at one input. -/
def stemCopiesWrong : ChangeSpec := { name := "stemCopies", fn := fun _ => fun
  | [d1, d2, d3, d4] => { results := [.lit (.bool false)], args := [d1, d2, d3, d4] }
  | _ => none }
def StemCopiesWrongFalsely : Prop := stemCopiesRow.holds Tryz.pinned (OpenSpec.ofChange stemCopiesWrong)

/- THE SECOND FORM. 'bulk': how many values and letters a reading holds, each counted each time it is reached (what is shared counts as often as it is met; a slice's spare places count too). A statement '..UptoSaid' is the law's where the arguments, and the package variables that the reading takes, are together of bulk at most 1048576: NARROWER than '..Said'. Prove '..Said' where nothing that the law and all that it calls make is longer than what came in: it says more and counts as full. Else prove '..UptoSaid'. A law counts once. -/
mutual
def uptoBulk {H : Type} : DataW H → Nat
  | .lit (.string bytes) => bytes.length + 1
  | .lit _ => 1
  | .nil => 1
  | .ptr d => uptoBulk d + 1
  | .slice elems spare => uptoBulkAll elems + uptoBulkAll spare + 1
  | .agg parts => uptoBulkAll parts + 1
  | .iface _ d => uptoBulk d + 1
  | .map entries => uptoBulkEntries entries + 1
  | .held _ => 1
def uptoBulkAll {H : Type} : List (DataW H) → Nat
  | [] => 0
  | d :: r => uptoBulk d + uptoBulkAll r
def uptoBulkEntries {H : Type} : List (Lit × DataW H) → Nat
  | [] => 0
  | x :: r => uptoBulkEntry x + uptoBulkEntries r
def uptoBulkEntry {H : Type} : Lit × DataW H → Nat
  | (.string bytes, d) => bytes.length + uptoBulk d + 1
  | (_, d) => uptoBulk d + 1
 end
def uptoSmall : (H : Type) → List (DataW H) → Bool := fun _ ds => decide (uptoBulkAll ds ≤ 1048576)
def OpenSpec.upto (s : _root_.Go.ChangeSpec) : _root_.Go.OpenSpec := { _root_.Go.OpenSpec.ofChange s with cond := some uptoSmall }

/-- 'postillaw04.StemConcerned', WHERE WHAT IT READS IS OF BULK AT MOST 1048576: true; the input reads as it did. -/
def stemConcernedUptoRow : OpenClaim := { program := "ytfgkfdglomngiaagreatdoor", sum := "b73e79454fadea474954af70397c3cb5722c856a0c66d40ed2175c08fc8deda9", func := "postil/postillaw04.StemConcerned", spec := "stemConcerned", unfollowed := true, recurses := true, named := ["postil/stem.kinds"], plainKeys := false, apart := false, laid := [("postil/stem.kinds", laid_postil_stem_kinds)], narrowed := true }
def StemConcernedUptoSaid : Prop := stemConcernedUptoRow.holds Tryz.pinned (OpenSpec.upto stemConcernedSpec)

/-- 'postillaw04.StemOrder', WHERE WHAT IT READS IS OF BULK AT MOST 1048576: true; the input reads as it did. -/
def stemOrderUptoRow : OpenClaim := { program := "ytfgkfdglomngiaagreatdoor", sum := "b73e79454fadea474954af70397c3cb5722c856a0c66d40ed2175c08fc8deda9", func := "postil/postillaw04.StemOrder", spec := "stemOrder", unfollowed := true, recurses := true, named := ["postil/stem.kinds"], plainKeys := false, apart := false, laid := [("postil/stem.kinds", laid_postil_stem_kinds)], narrowed := true }
def StemOrderUptoSaid : Prop := stemOrderUptoRow.holds Tryz.pinned (OpenSpec.upto stemOrderSpec)

/-- 'postillaw04.StemSteps', WHERE WHAT IT READS IS OF BULK AT MOST 1048576: true; the input reads as it did. -/
def stemStepsUptoRow : OpenClaim := { program := "ytfgkfdglomngiaagreatdoor", sum := "b73e79454fadea474954af70397c3cb5722c856a0c66d40ed2175c08fc8deda9", func := "postil/postillaw04.StemSteps", spec := "stemSteps", unfollowed := true, recurses := true, named := ["postil/stem.kinds"], plainKeys := false, apart := false, laid := [("postil/stem.kinds", laid_postil_stem_kinds)], narrowed := true }
def StemStepsUptoSaid : Prop := stemStepsUptoRow.holds Tryz.pinned (OpenSpec.upto stemStepsSpec)

/-- 'postillaw04.StemWins', WHERE WHAT IT READS IS OF BULK AT MOST 1048576: true; the input reads as it did. -/
def stemWinsUptoRow : OpenClaim := { program := "ytfgkfdglomngiaagreatdoor", sum := "b73e79454fadea474954af70397c3cb5722c856a0c66d40ed2175c08fc8deda9", func := "postil/postillaw04.StemWins", spec := "stemWins", unfollowed := true, recurses := true, named := ["postil/stem.kinds"], plainKeys := false, apart := false, laid := [("postil/stem.kinds", laid_postil_stem_kinds)], narrowed := true }
def StemWinsUptoSaid : Prop := stemWinsUptoRow.holds Tryz.pinned (OpenSpec.upto stemWinsSpec)

/-- 'postillaw04.StemVoid', WHERE WHAT IT READS IS OF BULK AT MOST 1048576: true; the input reads as it did. -/
def stemVoidUptoRow : OpenClaim := { program := "ytfgkfdglomngiaagreatdoor", sum := "b73e79454fadea474954af70397c3cb5722c856a0c66d40ed2175c08fc8deda9", func := "postil/postillaw04.StemVoid", spec := "stemVoid", unfollowed := true, recurses := true, named := ["postil/stem.kinds"], plainKeys := false, apart := false, laid := [("postil/stem.kinds", laid_postil_stem_kinds)], narrowed := true }
def StemVoidUptoSaid : Prop := stemVoidUptoRow.holds Tryz.pinned (OpenSpec.upto stemVoidSpec)

/-- 'postillaw04.StemIdle', WHERE WHAT IT READS IS OF BULK AT MOST 1048576: true; the input reads as it did. -/
def stemIdleUptoRow : OpenClaim := { program := "ytfgkfdglomngiaagreatdoor", sum := "b73e79454fadea474954af70397c3cb5722c856a0c66d40ed2175c08fc8deda9", func := "postil/postillaw04.StemIdle", spec := "stemIdle", unfollowed := true, recurses := true, named := ["postil/stem.kinds"], plainKeys := false, apart := false, laid := [("postil/stem.kinds", laid_postil_stem_kinds)], narrowed := true }
def StemIdleUptoSaid : Prop := stemIdleUptoRow.holds Tryz.pinned (OpenSpec.upto stemIdleSpec)

/-- 'postillaw04.StemExamples', WHERE WHAT IT READS IS OF BULK AT MOST 1048576: true; the input reads as it did. -/
def stemExamplesUptoRow : OpenClaim := { program := "ytfgkfdglomngiaagreatdoor", sum := "b73e79454fadea474954af70397c3cb5722c856a0c66d40ed2175c08fc8deda9", func := "postil/postillaw04.StemExamples", spec := "stemExamples", inPlace := ["internal/bytealg.abigen_runtime_cmpstring"], unfollowed := true, recurses := true, named := ["postil/stem.kinds"], plainKeys := false, apart := false, laid := [("postil/stem.kinds", laid_postil_stem_kinds)], narrowed := true }
def StemExamplesUptoSaid : Prop := stemExamplesUptoRow.holds Tryz.pinned (OpenSpec.upto stemExamplesSpec)

/-- 'postillaw04.StemHomographs', WHERE WHAT IT READS IS OF BULK AT MOST 1048576: true; the input reads as it did. -/
def stemHomographsUptoRow : OpenClaim := { program := "ytfgkfdglomngiaagreatdoor", sum := "b73e79454fadea474954af70397c3cb5722c856a0c66d40ed2175c08fc8deda9", func := "postil/postillaw04.StemHomographs", spec := "stemHomographs", unfollowed := true, recurses := true, named := ["postil/stem.kinds"], plainKeys := false, apart := false, laid := [("postil/stem.kinds", laid_postil_stem_kinds)], narrowed := true }
def StemHomographsUptoSaid : Prop := stemHomographsUptoRow.holds Tryz.pinned (OpenSpec.upto stemHomographsSpec)

/-- 'postillaw04.StemOnce', WHERE WHAT IT READS IS OF BULK AT MOST 1048576: true; the input reads as it did. -/
def stemOnceUptoRow : OpenClaim := { program := "ytfgkfdglomngiaagreatdoor", sum := "b73e79454fadea474954af70397c3cb5722c856a0c66d40ed2175c08fc8deda9", func := "postil/postillaw04.StemOnce", spec := "stemOnce", inPlace := ["internal/bytealg.abigen_runtime_cmpstring"], unfollowed := true, recurses := true, named := ["postil/stem.kinds"], plainKeys := false, apart := false, laid := [("postil/stem.kinds", laid_postil_stem_kinds)], narrowed := true }
def StemOnceUptoSaid : Prop := stemOnceUptoRow.holds Tryz.pinned (OpenSpec.upto stemOnceSpec)

/-- 'postillaw04.StemCopies', WHERE WHAT IT READS IS OF BULK AT MOST 1048576: true; the input reads as it did. -/
def stemCopiesUptoRow : OpenClaim := { program := "ytfgkfdglomngiaagreatdoor", sum := "b73e79454fadea474954af70397c3cb5722c856a0c66d40ed2175c08fc8deda9", func := "postil/postillaw04.StemCopies", spec := "stemCopies", unfollowed := true, recurses := true, named := ["postil/stem.kinds", "postil/leaf.kinds"], plainKeys := false, apart := false, laid := [("postil/leaf.kinds", laid_postil_leaf_kinds), ("postil/stem.kinds", laid_postil_stem_kinds)], narrowed := true }
def StemCopiesUptoSaid : Prop := stemCopiesUptoRow.holds Tryz.pinned (OpenSpec.upto stemCopiesSpec)

end Rows
end Go.Proofs.YtfgkfdglomngiaaGreatDoor
