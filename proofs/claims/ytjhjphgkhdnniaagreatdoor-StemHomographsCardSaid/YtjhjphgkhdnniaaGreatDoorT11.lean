/- A PART OF THE PROOF: contracts of functions, each walked once (much of it printed by a program of the author's own). -/
import Derived.Test.YtjhjphgkhdnniaaGreatDoorT5
import Derived.Test.YtjhjphgkhdnniaaGreatDoorT4
import Derived.Test.YtjhjphgkhdnniaaGreatDoorCards
import Derived.Test.YtjhjphgkhdnniaaGreatDoorTie
set_option linter.unusedSimpArgs false
set_option linter.unusedVariables false
set_option maxRecDepth 4000
namespace Go.Pk
open Go Go.RowKit Go.Proofs
theorem _root_.Go.Proofs.Tryz.reads3 {W : World} : Reads Tryz.prog W 3 LInt := reads_int zbo
theorem _root_.Go.Proofs.Tryz.reads9 {W : World} : Reads Tryz.prog W 9 LStr := reads_str zaz
theorem _root_.Go.Proofs.Tryz.reads32 {W : World} : Reads Tryz.prog W 32 (LSl LStr) := ziX zr zq rfl zq Tryz.reads9
theorem _root_.Go.Proofs.Tryz.reads107 {W : World} : Reads Tryz.prog W 107 (LSl (LSl LStr)) := ziX zas zq rfl zq Tryz.reads32
theorem _root_.Go.Proofs.Tryz.reads109 {W : World} : Reads Tryz.prog W 109 LChapter := reads_Chapter zav zq rfl rfl zq Tryz.reads3 rfl rfl zq Tryz.reads107
theorem _root_.Go.Proofs.Tryz.reads22 {W : World} : Reads Tryz.prog W 22 (LSl LChapter) := ziX zao zq rfl zq Tryz.reads109
theorem _root_.Go.Proofs.Tryz.reads24 {W : World} : Reads Tryz.prog W 24 LText := reads_Text zaJ zq rfl rfl zq Tryz.reads22
theorem _root_.Go.Proofs.Tryz.reads121 {W : World} : Reads Tryz.prog W 121 LRule := reads_Rule zbt zq rfl rfl zq Tryz.reads9 rfl rfl zq Tryz.reads9 rfl rfl zq Tryz.reads3
theorem _root_.Go.Proofs.Tryz.reads25 {W : World} : Reads Tryz.prog W 25 (LSl LRule) := ziX zbE zq rfl zq Tryz.reads121
theorem _root_.Go.Proofs.Tryz.reads5 {W : World} : Reads Tryz.prog W 5 LU8 := reads_u8 Tryz.underlying5
theorem _root_.Go.Proofs.Tryz.reads42 {W : World} : Reads Tryz.prog W 42 LPlace := reads_Place zah zq rfl rfl zq Tryz.reads3 rfl rfl zq Tryz.reads3 rfl rfl zq Tryz.reads3
theorem _root_.Go.Proofs.Tryz.reads44 {W : World} : Reads Tryz.prog W 44 LHead := reads_Head zdD zq rfl rfl zq Tryz.reads9 rfl rfl zq Tryz.reads5
theorem _root_.Go.Proofs.Tryz.reads61 {W : World} : Reads Tryz.prog W 61 LDecision := reads_Decision zo zq rfl rfl zq Tryz.reads3 rfl rfl zq Tryz.reads5 rfl rfl zq Tryz.reads9 rfl rfl zq Tryz.reads42 rfl rfl zq Tryz.reads44 rfl rfl zq Tryz.reads3
theorem _root_.Go.Proofs.Tryz.reads26 {W : World} : Reads Tryz.prog W 26 (LSl LDecision) := ziX zac zq rfl zq Tryz.reads61
theorem _root_.Go.Proofs.Tryz.reads28 {W : World} : Reads Tryz.prog W 28 LLexicon := reads_Lexicon zay zq rfl rfl zq Tryz.reads25 rfl rfl zq Tryz.reads26
theorem _root_.Go.Proofs.Tryz.reads115 {W : World} : Reads Tryz.prog W 115 LReading := reads_Reading zar zq rfl rfl zq Tryz.reads42 rfl rfl zq Tryz.reads5 rfl rfl zq Tryz.reads9
theorem _root_.Go.Proofs.Tryz.reads53 {W : World} : Reads Tryz.prog W 53 (LSl LReading) := ziX zbM zq rfl zq Tryz.reads115
theorem _root_.Go.Proofs.Tryz.reads55 {W : World} : Reads Tryz.prog W 55 LCopy := reads_Copy zcU zq rfl rfl zq Tryz.reads3 rfl rfl zq Tryz.reads53
end Go.Pk
