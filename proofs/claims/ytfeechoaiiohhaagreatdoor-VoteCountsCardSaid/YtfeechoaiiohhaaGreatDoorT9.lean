/- A PART OF THE PROOF: contracts of functions, each walked once (much of it printed by a program of the author's own). -/
import Derived.Test.YtfeechoaiiohhaaGreatDoorT4
import Derived.Test.YtfeechoaiiohhaaGreatDoorT2
import Derived.Test.YtfeechoaiiohhaaGreatDoorCards
import Derived.Test.YtfeechoaiiohhaaGreatDoorTie
set_option linter.unusedSimpArgs false
set_option linter.unusedVariables false
namespace Go.Pk
open Go Go.RowKit Go.Proofs
theorem _root_.Go.Proofs.Tryz.reads3 {W : World} : Reads Tryz.prog W 3 LInt := reads_int Tryz.underlying3
theorem _root_.Go.Proofs.Tryz.reads9 {W : World} : Reads Tryz.prog W 9 LStr := reads_str Tryz.underlying9
theorem _root_.Go.Proofs.Tryz.reads63 {W : World} : Reads Tryz.prog W 63 (LSl LStr) := reads_sl Tryz.underlying63 (by kernel_rfl) rfl (by kernel_rfl) Tryz.reads9
theorem _root_.Go.Proofs.Tryz.reads146 {W : World} : Reads Tryz.prog W 146 (LSl (LSl LStr)) := reads_sl Tryz.underlying146 (by kernel_rfl) rfl (by kernel_rfl) Tryz.reads63
theorem _root_.Go.Proofs.Tryz.reads148 {W : World} : Reads Tryz.prog W 148 LChapter := reads_Chapter Tryz.underlying148 (by kernel_rfl) rfl rfl (by kernel_rfl) Tryz.reads3 rfl rfl (by kernel_rfl) Tryz.reads146
theorem _root_.Go.Proofs.Tryz.reads22 {W : World} : Reads Tryz.prog W 22 (LSl LChapter) := reads_sl Tryz.underlying22 (by kernel_rfl) rfl (by kernel_rfl) Tryz.reads148
theorem _root_.Go.Proofs.Tryz.reads24 {W : World} : Reads Tryz.prog W 24 LText := reads_Text Tryz.underlying24 (by kernel_rfl) rfl rfl (by kernel_rfl) Tryz.reads22
theorem _root_.Go.Proofs.Tryz.reads71 {W : World} : Reads Tryz.prog W 71 LRule := reads_Rule Tryz.underlying71 (by kernel_rfl) rfl rfl (by kernel_rfl) Tryz.reads9 rfl rfl (by kernel_rfl) Tryz.reads9 rfl rfl (by kernel_rfl) Tryz.reads3
theorem _root_.Go.Proofs.Tryz.reads25 {W : World} : Reads Tryz.prog W 25 (LSl LRule) := reads_sl Tryz.underlying25 (by kernel_rfl) rfl (by kernel_rfl) Tryz.reads71
theorem _root_.Go.Proofs.Tryz.reads5 {W : World} : Reads Tryz.prog W 5 LU8 := reads_u8 Tryz.underlying5
theorem _root_.Go.Proofs.Tryz.reads73 {W : World} : Reads Tryz.prog W 73 LPlace := reads_Place Tryz.underlying73 (by kernel_rfl) rfl rfl (by kernel_rfl) Tryz.reads3 rfl rfl (by kernel_rfl) Tryz.reads3 rfl rfl (by kernel_rfl) Tryz.reads3
theorem _root_.Go.Proofs.Tryz.reads75 {W : World} : Reads Tryz.prog W 75 LHead := reads_Head Tryz.underlying75 (by kernel_rfl) rfl rfl (by kernel_rfl) Tryz.reads9 rfl rfl (by kernel_rfl) Tryz.reads5
theorem _root_.Go.Proofs.Tryz.reads77 {W : World} : Reads Tryz.prog W 77 LDecision := reads_Decision Tryz.underlying77 (by kernel_rfl) rfl rfl (by kernel_rfl) Tryz.reads3 rfl rfl (by kernel_rfl) Tryz.reads5 rfl rfl (by kernel_rfl) Tryz.reads9 rfl rfl (by kernel_rfl) Tryz.reads73 rfl rfl (by kernel_rfl) Tryz.reads75 rfl rfl (by kernel_rfl) Tryz.reads3
theorem _root_.Go.Proofs.Tryz.reads26 {W : World} : Reads Tryz.prog W 26 (LSl LDecision) := reads_sl Tryz.underlying26 (by kernel_rfl) rfl (by kernel_rfl) Tryz.reads77
theorem _root_.Go.Proofs.Tryz.reads28 {W : World} : Reads Tryz.prog W 28 LLexicon := reads_Lexicon Tryz.underlying28 (by kernel_rfl) rfl rfl (by kernel_rfl) Tryz.reads25 rfl rfl (by kernel_rfl) Tryz.reads26
theorem _root_.Go.Proofs.Tryz.reads80 {W : World} : Reads Tryz.prog W 80 (LSl LHead) := reads_sl Tryz.underlying80 (by kernel_rfl) rfl (by kernel_rfl) Tryz.reads75
theorem _root_.Go.Proofs.Tryz.reads82 {W : World} : Reads Tryz.prog W 82 LQuestion := reads_Question Tryz.underlying82 (by kernel_rfl) rfl rfl (by kernel_rfl) Tryz.reads73 rfl rfl (by kernel_rfl) Tryz.reads80
theorem _root_.Go.Proofs.Tryz.reads29 {W : World} : Reads Tryz.prog W 29 (LSl LQuestion) := reads_sl Tryz.underlying29 (by kernel_rfl) rfl (by kernel_rfl) Tryz.reads82
theorem _root_.Go.Proofs.Tryz.reads42 {W : World} : Reads Tryz.prog W 42 (LSl LInt) := reads_sl Tryz.underlying42 (by kernel_rfl) rfl (by kernel_rfl) Tryz.reads3
theorem _root_.Go.Proofs.Tryz.reads84 {W : World} : Reads Tryz.prog W 84 LVoter := reads_Voter Tryz.underlying84 (by kernel_rfl) rfl rfl (by kernel_rfl) Tryz.reads3 rfl rfl (by kernel_rfl) Tryz.reads3 rfl rfl (by kernel_rfl) Tryz.reads42
theorem _root_.Go.Proofs.Tryz.reads30 {W : World} : Reads Tryz.prog W 30 (LSl LVoter) := reads_sl Tryz.underlying30 (by kernel_rfl) rfl (by kernel_rfl) Tryz.reads84
theorem _root_.Go.Proofs.Tryz.reads32 {W : World} : Reads Tryz.prog W 32 LPoll := reads_Poll Tryz.underlying32 (by kernel_rfl) rfl rfl (by kernel_rfl) Tryz.reads24 rfl rfl (by kernel_rfl) Tryz.reads28 rfl rfl (by kernel_rfl) Tryz.reads29 rfl rfl (by kernel_rfl) Tryz.reads30
end Go.Pk
