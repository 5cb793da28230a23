/- A PART OF THE PROOF: contracts of functions, each walked once (much of it printed by a program of the author's own). -/
import Derived.Test.YtfpiiheehdedmaaGreatDoorT5
import Derived.Test.YtfpiiheehdedmaaGreatDoorT2
import Derived.Test.YtfpiiheehdedmaaGreatDoorCards
import Derived.Test.YtfpiiheehdedmaaGreatDoorTie
set_option linter.unusedSimpArgs false
set_option linter.unusedVariables false
set_option maxRecDepth 4000
namespace Go.Pk
open Go Go.RowKit Go.Proofs
theorem _root_.Go.Proofs.Tryz.reads3 {W : World} : Reads Tryz.prog W 3 LInt := reads_int zbU
theorem _root_.Go.Proofs.Tryz.reads9 {W : World} : Reads Tryz.prog W 9 LStr := reads_str zaB
theorem _root_.Go.Proofs.Tryz.reads60 {W : World} : Reads Tryz.prog W 60 (LSl LStr) := zfM zV (by kernel_rfl) rfl (by kernel_rfl) Tryz.reads9
theorem _root_.Go.Proofs.Tryz.reads150 {W : World} : Reads Tryz.prog W 150 (LSl (LSl LStr)) := zfM zaO (by kernel_rfl) rfl (by kernel_rfl) Tryz.reads60
theorem _root_.Go.Proofs.Tryz.reads152 {W : World} : Reads Tryz.prog W 152 LChapter := reads_Chapter zaJ (by kernel_rfl) rfl rfl (by kernel_rfl) Tryz.reads3 rfl rfl (by kernel_rfl) Tryz.reads150
theorem _root_.Go.Proofs.Tryz.reads22 {W : World} : Reads Tryz.prog W 22 (LSl LChapter) := zfM zaK (by kernel_rfl) rfl (by kernel_rfl) Tryz.reads152
theorem _root_.Go.Proofs.Tryz.reads24 {W : World} : Reads Tryz.prog W 24 LText := reads_Text zaP (by kernel_rfl) rfl rfl (by kernel_rfl) Tryz.reads22
theorem _root_.Go.Proofs.Tryz.reads68 {W : World} : Reads Tryz.prog W 68 LRule := reads_Rule zbG (by kernel_rfl) rfl rfl (by kernel_rfl) Tryz.reads9 rfl rfl (by kernel_rfl) Tryz.reads9 rfl rfl (by kernel_rfl) Tryz.reads3
theorem _root_.Go.Proofs.Tryz.reads25 {W : World} : Reads Tryz.prog W 25 (LSl LRule) := zfM zbd (by kernel_rfl) rfl (by kernel_rfl) Tryz.reads68
theorem _root_.Go.Proofs.Tryz.reads5 {W : World} : Reads Tryz.prog W 5 LU8 := reads_u8 Tryz.underlying5
theorem _root_.Go.Proofs.Tryz.reads70 {W : World} : Reads Tryz.prog W 70 LPlace := reads_Place zao (by kernel_rfl) rfl rfl (by kernel_rfl) Tryz.reads3 rfl rfl (by kernel_rfl) Tryz.reads3 rfl rfl (by kernel_rfl) Tryz.reads3
theorem _root_.Go.Proofs.Tryz.reads72 {W : World} : Reads Tryz.prog W 72 LHead := reads_Head zbn (by kernel_rfl) rfl rfl (by kernel_rfl) Tryz.reads9 rfl rfl (by kernel_rfl) Tryz.reads5
theorem _root_.Go.Proofs.Tryz.reads74 {W : World} : Reads Tryz.prog W 74 LDecision := reads_Decision zo (by kernel_rfl) rfl rfl (by kernel_rfl) Tryz.reads3 rfl rfl (by kernel_rfl) Tryz.reads5 rfl rfl (by kernel_rfl) Tryz.reads9 rfl rfl (by kernel_rfl) Tryz.reads70 rfl rfl (by kernel_rfl) Tryz.reads72 rfl rfl (by kernel_rfl) Tryz.reads3
theorem _root_.Go.Proofs.Tryz.reads26 {W : World} : Reads Tryz.prog W 26 (LSl LDecision) := zfM zaG (by kernel_rfl) rfl (by kernel_rfl) Tryz.reads74
theorem _root_.Go.Proofs.Tryz.reads28 {W : World} : Reads Tryz.prog W 28 LLexicon := reads_Lexicon zag (by kernel_rfl) rfl rfl (by kernel_rfl) Tryz.reads25 rfl rfl (by kernel_rfl) Tryz.reads26
theorem _root_.Go.Proofs.Tryz.reads82 {W : World} : Reads Tryz.prog W 82 (LSl LHead) := zfM zaZ (by kernel_rfl) rfl (by kernel_rfl) Tryz.reads72
theorem _root_.Go.Proofs.Tryz.reads84 {W : World} : Reads Tryz.prog W 84 LQuestion := reads_Question zaF (by kernel_rfl) rfl rfl (by kernel_rfl) Tryz.reads70 rfl rfl (by kernel_rfl) Tryz.reads82
theorem _root_.Go.Proofs.Tryz.reads29 {W : World} : Reads Tryz.prog W 29 (LSl LQuestion) := zfM zaq (by kernel_rfl) rfl (by kernel_rfl) Tryz.reads84
theorem _root_.Go.Proofs.Tryz.reads42 {W : World} : Reads Tryz.prog W 42 (LSl LInt) := zfM zg (by kernel_rfl) rfl (by kernel_rfl) Tryz.reads3
theorem _root_.Go.Proofs.Tryz.reads79 {W : World} : Reads Tryz.prog W 79 LVoter := reads_Voter zaz (by kernel_rfl) rfl rfl (by kernel_rfl) Tryz.reads3 rfl rfl (by kernel_rfl) Tryz.reads3 rfl rfl (by kernel_rfl) Tryz.reads42
theorem _root_.Go.Proofs.Tryz.reads30 {W : World} : Reads Tryz.prog W 30 (LSl LVoter) := zfM zaa (by kernel_rfl) rfl (by kernel_rfl) Tryz.reads79
theorem _root_.Go.Proofs.Tryz.reads32 {W : World} : Reads Tryz.prog W 32 LPoll := reads_Poll zt (by kernel_rfl) rfl rfl (by kernel_rfl) Tryz.reads24 rfl rfl (by kernel_rfl) Tryz.reads28 rfl rfl (by kernel_rfl) Tryz.reads29 rfl rfl (by kernel_rfl) Tryz.reads30
theorem _root_.Go.Proofs.Tryz.reads164 {W : World} : Reads Tryz.prog W 164 LU32 := reads_u32 Tryz.underlying164
theorem _root_.Go.Proofs.Tryz.reads81 {W : World} : Reads Tryz.prog W 81 (LSl LU32) := zfM Tryz.underlying81 (by kernel_rfl) rfl (by kernel_rfl) Tryz.reads164
end Go.Pk
