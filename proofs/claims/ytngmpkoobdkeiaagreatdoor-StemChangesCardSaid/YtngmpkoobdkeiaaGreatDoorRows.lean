/-
  NARROWER THAN 'FOR EVERY INPUT', by the rows' own cells (each row's printed sentence says how): StemTells: laid · StemChanges: laid · StemHeads: laid.
  DERIVED. THE GIVEN ROWS OF THIS SEAT. 3 by the template 'for every input the law returns true; each argument reads behind the call as it read before'; 0 by the template 'total and deterministic' (their statements: YtngmpkoobdkeiaaGreatDoorTotals.lean).
  GIVEN WITH THE SEED: the statements are not yours to turn. If you find one false, say at which input.
  Laid BY PROGRAM, IN A SANDBOX (cutbox-rows.mjs): the forced cells as the released guide's own fill.sh prints them over the translation 3b8dc9cb8c5cf656… (all of the seat's roots in one cut). By AI agents, Wed Nov 11 2026. No macro, syntax, notation, axiom, sorry.
-/
import Derived.Test.YtngmpkoobdkeiaaGreatDoorChecked
import GoSem.Claim
import GoSem.ClaimJoined
import GoSem.ClaimMapViews
import Derived.JoinedTies
import Derived.KernelRfl
namespace Go.Proofs.YtngmpkoobdkeiaaGreatDoor
/- THE CELL 'sum', in the pinned program and in every row, IS THE sha256 OF THE DUMP (.gsa) THAT YtngmpkoobdkeiaaGreatDoorProg.lean LOADS. Nothing in Lean hashes anything: it is a label: what it is worth is what the hold of that sum in a sandbox is worth. -/
noncomputable def Tryz.pinned : Pinned := { name := "ytngmpkoobdkeiaagreatdoor", sum := "3b8dc9cb8c5cf656d6d06e4b9eae07d0c4d654b997a8215ffd60a0670008af57", checked := Tryz.checked }
namespace Rows
def none {H : Type} : Left H := { results := [], args := [] }

/- WHAT THE LISTED PACKAGE-LEVEL VARIABLES READ AS WHEN THE CALL BEGINS. Each datum BY PROGRAM (the guide's laid-datum.mjs) off the statement by which the dump's own 'gosem.cut.vars' lays the variable. In a bare row this is a premise. The card (YtngmpkoobdkeiaaGreatDoorCards.lean) ties it to the program's text. -/
def laid_postil_stem_kinds {H : Type} : DataW H := .iface "func table" (.agg [.agg [.lit (.bool false), .lit (.bool false), .lit (.bool false), .lit (.bool false), .nil], .agg [.lit (.bool true), .lit (.bool false), .lit (.bool true), .lit (.bool false), .iface "func" (.lit (.string [112, 111, 115, 116, 105, 108, 47, 115, 116, 101, 109, 46, 107, 105, 110, 100, 115, 36, 49]))], .agg [.lit (.bool true), .lit (.bool true), .lit (.bool true), .lit (.bool false), .iface "func" (.lit (.string [112, 111, 115, 116, 105, 108, 47, 115, 116, 101, 109, 46, 107, 105, 110, 100, 115, 36, 50]))], .agg [.lit (.bool false), .lit (.bool true), .lit (.bool true), .lit (.bool false), .iface "func" (.lit (.string [112, 111, 115, 116, 105, 108, 47, 115, 116, 101, 109, 46, 107, 105, 110, 100, 115, 36, 51]))], .agg [.lit (.bool false), .lit (.bool false), .lit (.bool false), .lit (.bool true), .iface "func" (.lit (.string [112, 111, 115, 116, 105, 108, 47, 115, 116, 101, 109, 46, 107, 105, 110, 100, 115, 36, 52]))]])

/-- 'postillaw04.StemTells': WHATEVER THE INPUT: true; the input reads as it did. -/
def stemTellsSpec : ChangeSpec := { name := "stemTells", fn := fun _ => fun
  | [d1, d2, d3] => { results := [.lit (.bool true)], args := [d1, d2, d3] }
  | _ => none }
def stemTellsRow : OpenClaim := { program := "ytngmpkoobdkeiaagreatdoor", sum := "3b8dc9cb8c5cf656d6d06e4b9eae07d0c4d654b997a8215ffd60a0670008af57", func := "postil/postillaw04.StemTells", spec := "stemTells", unfollowed := true, recurses := true, named := ["postil/stem.kinds"], apart := false, laid := [("postil/stem.kinds", laid_postil_stem_kinds)] }
def StemTellsSaid : Prop := stemTellsRow.holds Tryz.pinned (OpenSpec.ofChange stemTellsSpec)

/-- ITS FALSE NEIGHBOUR: 'it returns false'. Refute it at one input. -/
def stemTellsWrong : ChangeSpec := { name := "stemTells", fn := fun _ => fun
  | [d1, d2, d3] => { results := [.lit (.bool false)], args := [d1, d2, d3] }
  | _ => none }
def StemTellsWrongFalsely : Prop := stemTellsRow.holds Tryz.pinned (OpenSpec.ofChange stemTellsWrong)

/-- 'postillaw04.StemChanges': WHATEVER THE INPUT: true; the input reads as it did. -/
def stemChangesSpec : ChangeSpec := { name := "stemChanges", fn := fun _ => fun
  | [d1, d2, d3] => { results := [.lit (.bool true)], args := [d1, d2, d3] }
  | _ => none }
def stemChangesRow : OpenClaim := { program := "ytngmpkoobdkeiaagreatdoor", sum := "3b8dc9cb8c5cf656d6d06e4b9eae07d0c4d654b997a8215ffd60a0670008af57", func := "postil/postillaw04.StemChanges", spec := "stemChanges", unfollowed := true, recurses := true, named := ["postil/stem.kinds"], apart := false, laid := [("postil/stem.kinds", laid_postil_stem_kinds)] }
def StemChangesSaid : Prop := stemChangesRow.holds Tryz.pinned (OpenSpec.ofChange stemChangesSpec)

/-- ITS FALSE NEIGHBOUR: 'it returns false'. Refute it at one input. -/
def stemChangesWrong : ChangeSpec := { name := "stemChanges", fn := fun _ => fun
  | [d1, d2, d3] => { results := [.lit (.bool false)], args := [d1, d2, d3] }
  | _ => none }
def StemChangesWrongFalsely : Prop := stemChangesRow.holds Tryz.pinned (OpenSpec.ofChange stemChangesWrong)

/-- 'postillaw04.StemHeads': WHATEVER THE INPUT: true; the input reads as it did. -/
def stemHeadsSpec : ChangeSpec := { name := "stemHeads", fn := fun _ => fun
  | [d1, d2, d3, d4] => { results := [.lit (.bool true)], args := [d1, d2, d3, d4] }
  | _ => none }
def stemHeadsRow : OpenClaim := { program := "ytngmpkoobdkeiaagreatdoor", sum := "3b8dc9cb8c5cf656d6d06e4b9eae07d0c4d654b997a8215ffd60a0670008af57", func := "postil/postillaw04.StemHeads", spec := "stemHeads", inPlace := ["internal/bytealg.abigen_runtime_cmpstring"], unfollowed := true, recurses := true, named := ["postil/stem.kinds"], apart := false, laid := [("postil/stem.kinds", laid_postil_stem_kinds)] }
def StemHeadsSaid : Prop := stemHeadsRow.holds Tryz.pinned (OpenSpec.ofChange stemHeadsSpec)

/-- ITS FALSE NEIGHBOUR: 'it returns false'. Refute it at one input. -/
def stemHeadsWrong : ChangeSpec := { name := "stemHeads", fn := fun _ => fun
  | [d1, d2, d3, d4] => { results := [.lit (.bool false)], args := [d1, d2, d3, d4] }
  | _ => none }
def StemHeadsWrongFalsely : Prop := stemHeadsRow.holds Tryz.pinned (OpenSpec.ofChange stemHeadsWrong)

/- THE SECOND FORM. 'bulk': how many values and letters a reading holds, each counted each time it is reached (what is shared counts as often as it is met; a slice's spare places count too). A statement '..UptoSaid' is the law's where the arguments, and the package variables that the reading takes, are together of bulk at most 1048576: NARROWER than '..Said'. Prove '..Said' where nothing that the law and all that it calls make is longer than what came in: it says more and counts as full. Else prove '..UptoSaid'. A law counts once. -/
mutual
def uptoBulk {H : Type} : DataW H → Nat
  | .lit (.string bytes) => bytes.length + 1
  | .lit _ => 1
  | .nil => 1
  | .ptr d => uptoBulk d + 1
  | .slice elems spare => uptoBulkAll elems + uptoBulkAll spare + 1
  | .agg parts => uptoBulkAll parts + 1
  | .iface _ d => uptoBulk d + 1
  | .map entries => uptoBulkEntries entries + 1
  | .held _ => 1
def uptoBulkAll {H : Type} : List (DataW H) → Nat
  | [] => 0
  | d :: r => uptoBulk d + uptoBulkAll r
def uptoBulkEntries {H : Type} : List (Lit × DataW H) → Nat
  | [] => 0
  | x :: r => uptoBulkEntry x + uptoBulkEntries r
def uptoBulkEntry {H : Type} : Lit × DataW H → Nat
  | (.string bytes, d) => bytes.length + uptoBulk d + 1
  | (_, d) => uptoBulk d + 1
 end
def uptoSmall : (H : Type) → List (DataW H) → Bool := fun _ ds => decide (uptoBulkAll ds ≤ 1048576)
def OpenSpec.upto (s : _root_.Go.ChangeSpec) : _root_.Go.OpenSpec := { _root_.Go.OpenSpec.ofChange s with cond := some uptoSmall }

/-- 'postillaw04.StemTells', WHERE WHAT IT READS IS OF BULK AT MOST 1048576: true; the input reads as it did. -/
def stemTellsUptoRow : OpenClaim := { program := "ytngmpkoobdkeiaagreatdoor", sum := "3b8dc9cb8c5cf656d6d06e4b9eae07d0c4d654b997a8215ffd60a0670008af57", func := "postil/postillaw04.StemTells", spec := "stemTells", unfollowed := true, recurses := true, named := ["postil/stem.kinds"], apart := false, laid := [("postil/stem.kinds", laid_postil_stem_kinds)], narrowed := true }
def StemTellsUptoSaid : Prop := stemTellsUptoRow.holds Tryz.pinned (OpenSpec.upto stemTellsSpec)

/-- 'postillaw04.StemChanges', WHERE WHAT IT READS IS OF BULK AT MOST 1048576: true; the input reads as it did. -/
def stemChangesUptoRow : OpenClaim := { program := "ytngmpkoobdkeiaagreatdoor", sum := "3b8dc9cb8c5cf656d6d06e4b9eae07d0c4d654b997a8215ffd60a0670008af57", func := "postil/postillaw04.StemChanges", spec := "stemChanges", unfollowed := true, recurses := true, named := ["postil/stem.kinds"], apart := false, laid := [("postil/stem.kinds", laid_postil_stem_kinds)], narrowed := true }
def StemChangesUptoSaid : Prop := stemChangesUptoRow.holds Tryz.pinned (OpenSpec.upto stemChangesSpec)

/-- 'postillaw04.StemHeads', WHERE WHAT IT READS IS OF BULK AT MOST 1048576: true; the input reads as it did. -/
def stemHeadsUptoRow : OpenClaim := { program := "ytngmpkoobdkeiaagreatdoor", sum := "3b8dc9cb8c5cf656d6d06e4b9eae07d0c4d654b997a8215ffd60a0670008af57", func := "postil/postillaw04.StemHeads", spec := "stemHeads", inPlace := ["internal/bytealg.abigen_runtime_cmpstring"], unfollowed := true, recurses := true, named := ["postil/stem.kinds"], apart := false, laid := [("postil/stem.kinds", laid_postil_stem_kinds)], narrowed := true }
def StemHeadsUptoSaid : Prop := stemHeadsUptoRow.holds Tryz.pinned (OpenSpec.upto stemHeadsSpec)

end Rows
end Go.Proofs.YtngmpkoobdkeiaaGreatDoor
