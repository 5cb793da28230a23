/- A PART OF THE PROOF: contracts of functions, each walked once (much of it printed by a program of the author's own). -/
import Derived.Test.YtfgkfdglomngiaaGreatDoorT4
import Derived.Test.YtfgkfdglomngiaaGreatDoorT2
import Derived.Test.YtfgkfdglomngiaaGreatDoorCards
import Derived.Test.YtfgkfdglomngiaaGreatDoorTie
set_option linter.unusedSimpArgs false
set_option linter.unusedVariables false
namespace Go.Pk
open Go Go.RowKit Go.Proofs
theorem _root_.Go.Proofs.Tryz.reads3 {W : World} : Reads Tryz.prog W 3 LInt := reads_int Tryz.underlying3
theorem _root_.Go.Proofs.Tryz.reads9 {W : World} : Reads Tryz.prog W 9 LStr := reads_str Tryz.underlying9
theorem _root_.Go.Proofs.Tryz.reads62 {W : World} : Reads Tryz.prog W 62 (LSl LStr) := reads_sl Tryz.underlying62 (by kernel_rfl) rfl (by kernel_rfl) Tryz.reads9
theorem _root_.Go.Proofs.Tryz.reads131 {W : World} : Reads Tryz.prog W 131 (LSl (LSl LStr)) := reads_sl Tryz.underlying131 (by kernel_rfl) rfl (by kernel_rfl) Tryz.reads62
theorem _root_.Go.Proofs.Tryz.reads133 {W : World} : Reads Tryz.prog W 133 LChapter := reads_Chapter Tryz.underlying133 (by kernel_rfl) rfl rfl (by kernel_rfl) Tryz.reads3 rfl rfl (by kernel_rfl) Tryz.reads131
theorem _root_.Go.Proofs.Tryz.reads22 {W : World} : Reads Tryz.prog W 22 (LSl LChapter) := reads_sl Tryz.underlying22 (by kernel_rfl) rfl (by kernel_rfl) Tryz.reads133
theorem _root_.Go.Proofs.Tryz.reads24 {W : World} : Reads Tryz.prog W 24 LText := reads_Text Tryz.underlying24 (by kernel_rfl) rfl rfl (by kernel_rfl) Tryz.reads22
theorem _root_.Go.Proofs.Tryz.reads70 {W : World} : Reads Tryz.prog W 70 LRule := reads_Rule Tryz.underlying70 (by kernel_rfl) rfl rfl (by kernel_rfl) Tryz.reads9 rfl rfl (by kernel_rfl) Tryz.reads9 rfl rfl (by kernel_rfl) Tryz.reads3
theorem _root_.Go.Proofs.Tryz.reads25 {W : World} : Reads Tryz.prog W 25 (LSl LRule) := reads_sl Tryz.underlying25 (by kernel_rfl) rfl (by kernel_rfl) Tryz.reads70
theorem _root_.Go.Proofs.Tryz.reads5 {W : World} : Reads Tryz.prog W 5 LU8 := reads_u8 Tryz.underlying5
theorem _root_.Go.Proofs.Tryz.reads30 {W : World} : Reads Tryz.prog W 30 LPlace := reads_Place Tryz.underlying30 (by kernel_rfl) rfl rfl (by kernel_rfl) Tryz.reads3 rfl rfl (by kernel_rfl) Tryz.reads3 rfl rfl (by kernel_rfl) Tryz.reads3
theorem _root_.Go.Proofs.Tryz.reads32 {W : World} : Reads Tryz.prog W 32 LHead := reads_Head Tryz.underlying32 (by kernel_rfl) rfl rfl (by kernel_rfl) Tryz.reads9 rfl rfl (by kernel_rfl) Tryz.reads5
theorem _root_.Go.Proofs.Tryz.reads34 {W : World} : Reads Tryz.prog W 34 LDecision := reads_Decision Tryz.underlying34 (by kernel_rfl) rfl rfl (by kernel_rfl) Tryz.reads3 rfl rfl (by kernel_rfl) Tryz.reads5 rfl rfl (by kernel_rfl) Tryz.reads9 rfl rfl (by kernel_rfl) Tryz.reads30 rfl rfl (by kernel_rfl) Tryz.reads32 rfl rfl (by kernel_rfl) Tryz.reads3
theorem _root_.Go.Proofs.Tryz.reads26 {W : World} : Reads Tryz.prog W 26 (LSl LDecision) := reads_sl Tryz.underlying26 (by kernel_rfl) rfl (by kernel_rfl) Tryz.reads34
theorem _root_.Go.Proofs.Tryz.reads28 {W : World} : Reads Tryz.prog W 28 LLexicon := reads_Lexicon Tryz.underlying28 (by kernel_rfl) rfl rfl (by kernel_rfl) Tryz.reads25 rfl rfl (by kernel_rfl) Tryz.reads26
theorem _root_.Go.Proofs.Tryz.reads140 {W : World} : Reads Tryz.prog W 140 LU32 := reads_u32 Tryz.underlying140
theorem _root_.Go.Proofs.Tryz.reads57 {W : World} : Reads Tryz.prog W 57 (LSl LU32) := reads_sl Tryz.underlying57 (by kernel_rfl) rfl (by kernel_rfl) Tryz.reads140
end Go.Pk
