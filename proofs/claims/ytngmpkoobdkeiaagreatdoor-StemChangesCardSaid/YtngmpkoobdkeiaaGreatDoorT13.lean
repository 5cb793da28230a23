/- A PART OF THE PROOF: contracts of functions, each walked once (much of it printed by a program of the author's own). -/
import Derived.Test.YtngmpkoobdkeiaaGreatDoorT4
import Derived.Test.YtngmpkoobdkeiaaGreatDoorT2
import Derived.Test.YtngmpkoobdkeiaaGreatDoorCards
import Derived.Test.YtngmpkoobdkeiaaGreatDoorTie
namespace Go.Pk
open Go Go.RowKit Go.Proofs
theorem _root_.Go.Proofs.Tryz.reads3 {W : World} : Reads Tryz.prog W 3 LInt := reads_int Tryz.underlying3
theorem _root_.Go.Proofs.Tryz.reads9 {W : World} : Reads Tryz.prog W 9 LStr := reads_str Tryz.underlying9
theorem _root_.Go.Proofs.Tryz.reads33 {W : World} : Reads Tryz.prog W 33 (LSl LStr) := reads_sl Tryz.underlying33 (by kernel_rfl) rfl (by kernel_rfl) Tryz.reads9
theorem _root_.Go.Proofs.Tryz.reads91 {W : World} : Reads Tryz.prog W 91 (LSl (LSl LStr)) := reads_sl Tryz.underlying91 (by kernel_rfl) rfl (by kernel_rfl) Tryz.reads33
theorem _root_.Go.Proofs.Tryz.reads93 {W : World} : Reads Tryz.prog W 93 LChapter := reads_Chapter Tryz.underlying93 (by kernel_rfl) rfl rfl (by kernel_rfl) Tryz.reads3 rfl rfl (by kernel_rfl) Tryz.reads91
theorem _root_.Go.Proofs.Tryz.reads22 {W : World} : Reads Tryz.prog W 22 (LSl LChapter) := reads_sl Tryz.underlying22 (by kernel_rfl) rfl (by kernel_rfl) Tryz.reads93
theorem _root_.Go.Proofs.Tryz.reads24 {W : World} : Reads Tryz.prog W 24 LText := reads_Text Tryz.underlying24 (by kernel_rfl) rfl rfl (by kernel_rfl) Tryz.reads22
theorem _root_.Go.Proofs.Tryz.reads70 {W : World} : Reads Tryz.prog W 70 LRule := reads_Rule Tryz.underlying70 (by kernel_rfl) rfl rfl (by kernel_rfl) Tryz.reads9 rfl rfl (by kernel_rfl) Tryz.reads9 rfl rfl (by kernel_rfl) Tryz.reads3
theorem _root_.Go.Proofs.Tryz.reads25 {W : World} : Reads Tryz.prog W 25 (LSl LRule) := reads_sl Tryz.underlying25 (by kernel_rfl) rfl (by kernel_rfl) Tryz.reads70
theorem _root_.Go.Proofs.Tryz.reads5 {W : World} : Reads Tryz.prog W 5 LU8 := reads_u8 Tryz.underlying5
theorem _root_.Go.Proofs.Tryz.reads52 {W : World} : Reads Tryz.prog W 52 LPlace := reads_Place Tryz.underlying52 (by kernel_rfl) rfl rfl (by kernel_rfl) Tryz.reads3 rfl rfl (by kernel_rfl) Tryz.reads3 rfl rfl (by kernel_rfl) Tryz.reads3
theorem _root_.Go.Proofs.Tryz.reads54 {W : World} : Reads Tryz.prog W 54 LHead := reads_Head Tryz.underlying54 (by kernel_rfl) rfl rfl (by kernel_rfl) Tryz.reads9 rfl rfl (by kernel_rfl) Tryz.reads5
theorem _root_.Go.Proofs.Tryz.reads56 {W : World} : Reads Tryz.prog W 56 LDecision := reads_Decision Tryz.underlying56 (by kernel_rfl) rfl rfl (by kernel_rfl) Tryz.reads3 rfl rfl (by kernel_rfl) Tryz.reads5 rfl rfl (by kernel_rfl) Tryz.reads9 rfl rfl (by kernel_rfl) Tryz.reads52 rfl rfl (by kernel_rfl) Tryz.reads54 rfl rfl (by kernel_rfl) Tryz.reads3
theorem _root_.Go.Proofs.Tryz.reads26 {W : World} : Reads Tryz.prog W 26 (LSl LDecision) := reads_sl Tryz.underlying26 (by kernel_rfl) rfl (by kernel_rfl) Tryz.reads56
theorem _root_.Go.Proofs.Tryz.reads28 {W : World} : Reads Tryz.prog W 28 LLexicon := reads_Lexicon Tryz.underlying28 (by kernel_rfl) rfl rfl (by kernel_rfl) Tryz.reads25 rfl rfl (by kernel_rfl) Tryz.reads26
end Go.Pk
