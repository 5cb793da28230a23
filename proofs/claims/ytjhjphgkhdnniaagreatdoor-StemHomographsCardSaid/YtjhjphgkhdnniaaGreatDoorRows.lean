/-
  NARROWER THAN 'FOR EVERY INPUT', by the rows' own cells (each row's printed sentence says how): StemHomographs: laid · StemCopies: laid.
  DERIVED. THE GIVEN ROWS OF THIS SEAT. 2 by the template 'for every input the law returns true; each argument reads behind the call as it read before'; 0 by the template 'total and deterministic' (their statements: YtjhjphgkhdnniaaGreatDoorTotals.lean).
  GIVEN WITH THE SEED: the statements are not yours to turn. If you find one false, say at which input.
  Laid BY PROGRAM, IN A SANDBOX (cutbox-rows.mjs): the forced cells as the released guide's own fill.sh prints them over the translation b55ae9bb42e7eff7… (all of the seat's roots in one cut). By AI agents, Wed Nov 11 2026. No macro, syntax, notation, axiom, sorry.
-/
import Derived.Test.YtjhjphgkhdnniaaGreatDoorChecked
import GoSem.Claim
import GoSem.ClaimJoined
import GoSem.ClaimMapViews
import Derived.JoinedTies
import Derived.KernelRfl
namespace Go.Proofs.YtjhjphgkhdnniaaGreatDoor
/- THE CELL 'sum', in the pinned program and in every row, IS THE sha256 OF THE DUMP (.gsa) THAT YtjhjphgkhdnniaaGreatDoorProg.lean LOADS. Nothing in Lean hashes anything: it is a label: what it is worth is what the hold of that sum in a sandbox is worth. -/
noncomputable def Tryz.pinned : Pinned := { name := "ytjhjphgkhdnniaagreatdoor", sum := "b55ae9bb42e7eff7c2d5b6f70ed83a47ef24f8af3347d156cc9565d017f0ef37", checked := Tryz.checked }
namespace Rows
def none {H : Type} : Left H := { results := [], args := [] }

/- WHAT THE LISTED PACKAGE-LEVEL VARIABLES READ AS WHEN THE CALL BEGINS. Each datum BY PROGRAM (the guide's laid-datum.mjs) off the statement by which the dump's own 'gosem.cut.vars' lays the variable. In a bare row this is a premise. The card (YtjhjphgkhdnniaaGreatDoorCards.lean) ties it to the program's text. -/
def laid_postil_stem_kinds {H : Type} : DataW H := .iface "func table" (.agg [.agg [.lit (.bool false), .lit (.bool false), .lit (.bool false), .lit (.bool false), .nil], .agg [.lit (.bool true), .lit (.bool false), .lit (.bool true), .lit (.bool false), .iface "func" (.lit (.string [112, 111, 115, 116, 105, 108, 47, 115, 116, 101, 109, 46, 107, 105, 110, 100, 115, 36, 49]))], .agg [.lit (.bool true), .lit (.bool true), .lit (.bool true), .lit (.bool false), .iface "func" (.lit (.string [112, 111, 115, 116, 105, 108, 47, 115, 116, 101, 109, 46, 107, 105, 110, 100, 115, 36, 50]))], .agg [.lit (.bool false), .lit (.bool true), .lit (.bool true), .lit (.bool false), .iface "func" (.lit (.string [112, 111, 115, 116, 105, 108, 47, 115, 116, 101, 109, 46, 107, 105, 110, 100, 115, 36, 51]))], .agg [.lit (.bool false), .lit (.bool false), .lit (.bool false), .lit (.bool true), .iface "func" (.lit (.string [112, 111, 115, 116, 105, 108, 47, 115, 116, 101, 109, 46, 107, 105, 110, 100, 115, 36, 52]))]])
def laid_postil_leaf_kinds {H : Type} : DataW H := .iface "func table" (.agg [.agg [.lit (.int .i64 0), .nil, .nil], .agg [.lit (.int .i64 0), .iface "func" (.lit (.string [112, 111, 115, 116, 105, 108, 47, 108, 101, 97, 102, 46, 107, 105, 110, 100, 115, 36, 49])), .iface "func" (.lit (.string [112, 111, 115, 116, 105, 108, 47, 108, 101, 97, 102, 46, 107, 105, 110, 100, 115, 36, 50]))], .agg [.lit (.int .i64 1), .iface "func" (.lit (.string [112, 111, 115, 116, 105, 108, 47, 108, 101, 97, 102, 46, 107, 105, 110, 100, 115, 36, 51])), .iface "func" (.lit (.string [112, 111, 115, 116, 105, 108, 47, 108, 101, 97, 102, 46, 107, 105, 110, 100, 115, 36, 52]))], .agg [.lit (.int .i64 0), .iface "func" (.lit (.string [112, 111, 115, 116, 105, 108, 47, 108, 101, 97, 102, 46, 107, 105, 110, 100, 115, 36, 53])), .iface "func" (.lit (.string [112, 111, 115, 116, 105, 108, 47, 108, 101, 97, 102, 46, 107, 105, 110, 100, 115, 36, 54]))]])

/-- 'postillaw04.StemHomographs': WHATEVER THE INPUT: true; the input reads as it did. -/
def stemHomographsSpec : ChangeSpec := { name := "stemHomographs", fn := fun _ => fun
  | [d1, d2, d3, d4] => { results := [.lit (.bool true)], args := [d1, d2, d3, d4] }
  | _ => none }
def stemHomographsRow : OpenClaim := { program := "ytjhjphgkhdnniaagreatdoor", sum := "b55ae9bb42e7eff7c2d5b6f70ed83a47ef24f8af3347d156cc9565d017f0ef37", func := "postil/postillaw04.StemHomographs", spec := "stemHomographs", unfollowed := true, recurses := true, named := ["postil/stem.kinds"], plainKeys := false, apart := false, laid := [("postil/stem.kinds", laid_postil_stem_kinds)] }
def StemHomographsSaid : Prop := stemHomographsRow.holds Tryz.pinned (OpenSpec.ofChange stemHomographsSpec)

/-- ITS FALSE NEIGHBOUR: 'it returns false'. Refute it at one input. -/
def stemHomographsWrong : ChangeSpec := { name := "stemHomographs", fn := fun _ => fun
  | [d1, d2, d3, d4] => { results := [.lit (.bool false)], args := [d1, d2, d3, d4] }
  | _ => none }
def StemHomographsWrongFalsely : Prop := stemHomographsRow.holds Tryz.pinned (OpenSpec.ofChange stemHomographsWrong)

/-- 'postillaw04.StemCopies': WHATEVER THE INPUT: true; the input reads as it did. -/
def stemCopiesSpec : ChangeSpec := { name := "stemCopies", fn := fun _ => fun
  | [d1, d2, d3, d4] => { results := [.lit (.bool true)], args := [d1, d2, d3, d4] }
  | _ => none }
def stemCopiesRow : OpenClaim := { program := "ytjhjphgkhdnniaagreatdoor", sum := "b55ae9bb42e7eff7c2d5b6f70ed83a47ef24f8af3347d156cc9565d017f0ef37", func := "postil/postillaw04.StemCopies", spec := "stemCopies", unfollowed := true, recurses := true, named := ["postil/stem.kinds", "postil/leaf.kinds"], plainKeys := false, apart := false, laid := [("postil/leaf.kinds", laid_postil_leaf_kinds), ("postil/stem.kinds", laid_postil_stem_kinds)] }
def StemCopiesSaid : Prop := stemCopiesRow.holds Tryz.pinned (OpenSpec.ofChange stemCopiesSpec)

/-- ITS FALSE NEIGHBOUR: 'it returns false'. Refute it at one input. -/
def stemCopiesWrong : ChangeSpec := { name := "stemCopies", fn := fun _ => fun
  | [d1, d2, d3, d4] => { results := [.lit (.bool false)], args := [d1, d2, d3, d4] }
  | _ => none }
def StemCopiesWrongFalsely : Prop := stemCopiesRow.holds Tryz.pinned (OpenSpec.ofChange stemCopiesWrong)

/- THE SECOND FORM. 'bulk': how many values and letters a reading holds, each counted each time it is reached (what is shared counts as often as it is met; a slice's spare places count too). A statement '..UptoSaid' is the law's where the arguments, and the package variables that the reading takes, are together of bulk at most 1048576: NARROWER than '..Said'. Prove '..Said' where nothing that the law and all that it calls make is longer than what came in: it says more and counts as full. Else prove '..UptoSaid'. A law counts once. -/
mutual
def uptoBulk {H : Type} : DataW H → Nat
  | .lit (.string bytes) => bytes.length + 1
  | .lit _ => 1
  | .nil => 1
  | .ptr d => uptoBulk d + 1
  | .slice elems spare => uptoBulkAll elems + uptoBulkAll spare + 1
  | .agg parts => uptoBulkAll parts + 1
  | .iface _ d => uptoBulk d + 1
  | .map entries => uptoBulkEntries entries + 1
  | .held _ => 1
def uptoBulkAll {H : Type} : List (DataW H) → Nat
  | [] => 0
  | d :: r => uptoBulk d + uptoBulkAll r
def uptoBulkEntries {H : Type} : List (Lit × DataW H) → Nat
  | [] => 0
  | x :: r => uptoBulkEntry x + uptoBulkEntries r
def uptoBulkEntry {H : Type} : Lit × DataW H → Nat
  | (.string bytes, d) => bytes.length + uptoBulk d + 1
  | (_, d) => uptoBulk d + 1
 end
def uptoSmall : (H : Type) → List (DataW H) → Bool := fun _ ds => decide (uptoBulkAll ds ≤ 1048576)
def OpenSpec.upto (s : _root_.Go.ChangeSpec) : _root_.Go.OpenSpec := { _root_.Go.OpenSpec.ofChange s with cond := some uptoSmall }

/-- 'postillaw04.StemHomographs', WHERE WHAT IT READS IS OF BULK AT MOST 1048576: true; the input reads as it did. -/
def stemHomographsUptoRow : OpenClaim := { program := "ytjhjphgkhdnniaagreatdoor", sum := "b55ae9bb42e7eff7c2d5b6f70ed83a47ef24f8af3347d156cc9565d017f0ef37", func := "postil/postillaw04.StemHomographs", spec := "stemHomographs", unfollowed := true, recurses := true, named := ["postil/stem.kinds"], plainKeys := false, apart := false, laid := [("postil/stem.kinds", laid_postil_stem_kinds)], narrowed := true }
def StemHomographsUptoSaid : Prop := stemHomographsUptoRow.holds Tryz.pinned (OpenSpec.upto stemHomographsSpec)

/-- 'postillaw04.StemCopies', WHERE WHAT IT READS IS OF BULK AT MOST 1048576: true; the input reads as it did. -/
def stemCopiesUptoRow : OpenClaim := { program := "ytjhjphgkhdnniaagreatdoor", sum := "b55ae9bb42e7eff7c2d5b6f70ed83a47ef24f8af3347d156cc9565d017f0ef37", func := "postil/postillaw04.StemCopies", spec := "stemCopies", unfollowed := true, recurses := true, named := ["postil/stem.kinds", "postil/leaf.kinds"], plainKeys := false, apart := false, laid := [("postil/leaf.kinds", laid_postil_leaf_kinds), ("postil/stem.kinds", laid_postil_stem_kinds)], narrowed := true }
def StemCopiesUptoSaid : Prop := stemCopiesUptoRow.holds Tryz.pinned (OpenSpec.upto stemCopiesSpec)

end Rows
end Go.Proofs.YtjhjphgkhdnniaaGreatDoor
