/- A PART OF THE PROOF: contracts of functions, each walked once (much of it printed by a program of the author's own). -/
import Derived.Test.YtjdbapoodefncaaGreatDoorT5
import Derived.Test.YtjdbapoodefncaaGreatDoorT2
import Derived.Test.YtjdbapoodefncaaGreatDoorCards
import Derived.Test.YtjdbapoodefncaaGreatDoorTie
set_option linter.unusedSimpArgs false
set_option linter.unusedVariables false
set_option maxRecDepth 4000
namespace Go.Pk
open Go Go.RowKit Go.Proofs
theorem _root_.Go.Proofs.Tryz.reads3 {W : World} : Reads Tryz.prog W 3 LInt := reads_int zcg
theorem _root_.Go.Proofs.Tryz.reads9 {W : World} : Reads Tryz.prog W 9 LStr := reads_str zaz
theorem _root_.Go.Proofs.Tryz.reads59 {W : World} : Reads Tryz.prog W 59 (LSl LStr) := zga zV zcl rfl zcl Tryz.reads9
theorem _root_.Go.Proofs.Tryz.reads105 {W : World} : Reads Tryz.prog W 105 (LSl (LSl LStr)) := zga zaO zcl rfl zcl Tryz.reads59
theorem _root_.Go.Proofs.Tryz.reads107 {W : World} : Reads Tryz.prog W 107 LChapter := reads_Chapter zaG zcl rfl rfl zcl Tryz.reads3 rfl rfl zcl Tryz.reads105
theorem _root_.Go.Proofs.Tryz.reads26 {W : World} : Reads Tryz.prog W 26 (LSl LChapter) := zga zaK zcl rfl zcl Tryz.reads107
theorem _root_.Go.Proofs.Tryz.reads28 {W : World} : Reads Tryz.prog W 28 LText := reads_Text zaQ zcl rfl rfl zcl Tryz.reads26
theorem _root_.Go.Proofs.Tryz.reads122 {W : World} : Reads Tryz.prog W 122 LRule := reads_Rule zbC zcl rfl rfl zcl Tryz.reads9 rfl rfl zcl Tryz.reads9 rfl rfl zcl Tryz.reads3
theorem _root_.Go.Proofs.Tryz.reads29 {W : World} : Reads Tryz.prog W 29 (LSl LRule) := zga zbF zcl rfl zcl Tryz.reads122
theorem _root_.Go.Proofs.Tryz.reads5 {W : World} : Reads Tryz.prog W 5 LU8 := reads_u8 Tryz.underlying5
theorem _root_.Go.Proofs.Tryz.reads49 {W : World} : Reads Tryz.prog W 49 LPlace := reads_Place zam zcl rfl rfl zcl Tryz.reads3 rfl rfl zcl Tryz.reads3 rfl rfl zcl Tryz.reads3
theorem _root_.Go.Proofs.Tryz.reads51 {W : World} : Reads Tryz.prog W 51 LHead := reads_Head zbo zcl rfl rfl zcl Tryz.reads9 rfl rfl zcl Tryz.reads5
theorem _root_.Go.Proofs.Tryz.reads53 {W : World} : Reads Tryz.prog W 53 LDecision := reads_Decision zo zcl rfl rfl zcl Tryz.reads3 rfl rfl zcl Tryz.reads5 rfl rfl zcl Tryz.reads9 rfl rfl zcl Tryz.reads49 rfl rfl zcl Tryz.reads51 rfl rfl zcl Tryz.reads3
theorem _root_.Go.Proofs.Tryz.reads30 {W : World} : Reads Tryz.prog W 30 (LSl LDecision) := zga zaV zcl rfl zcl Tryz.reads53
theorem _root_.Go.Proofs.Tryz.reads32 {W : World} : Reads Tryz.prog W 32 LLexicon := reads_Lexicon zaB zcl rfl rfl zcl Tryz.reads29 rfl rfl zcl Tryz.reads30
theorem _root_.Go.Proofs.Tryz.reads66 {W : World} : Reads Tryz.prog W 66 (LSl LHead) := zga zaZ zcl rfl zcl Tryz.reads51
theorem _root_.Go.Proofs.Tryz.reads68 {W : World} : Reads Tryz.prog W 68 LQuestion := reads_Question zaA zcl rfl rfl zcl Tryz.reads49 rfl rfl zcl Tryz.reads66
theorem _root_.Go.Proofs.Tryz.reads33 {W : World} : Reads Tryz.prog W 33 (LSl LQuestion) := zga zao zcl rfl zcl Tryz.reads68
theorem _root_.Go.Proofs.Tryz.reads38 {W : World} : Reads Tryz.prog W 38 (LSl LInt) := zga zf zcl rfl zcl Tryz.reads3
theorem _root_.Go.Proofs.Tryz.reads58 {W : World} : Reads Tryz.prog W 58 LVoter := reads_Voter zay zcl rfl rfl zcl Tryz.reads3 rfl rfl zcl Tryz.reads3 rfl rfl zcl Tryz.reads38
theorem _root_.Go.Proofs.Tryz.reads34 {W : World} : Reads Tryz.prog W 34 (LSl LVoter) := zga zan zcl rfl zcl Tryz.reads58
theorem _root_.Go.Proofs.Tryz.reads36 {W : World} : Reads Tryz.prog W 36 LPoll := reads_Poll zy zcl rfl rfl zcl Tryz.reads28 rfl rfl zcl Tryz.reads32 rfl rfl zcl Tryz.reads33 rfl rfl zcl Tryz.reads34
theorem _root_.Go.Proofs.Tryz.reads144 {W : World} : Reads Tryz.prog W 144 LU32 := reads_u32 Tryz.underlying144
theorem _root_.Go.Proofs.Tryz.reads63 {W : World} : Reads Tryz.prog W 63 (LSl LU32) := zga Tryz.underlying63 zcl rfl zcl Tryz.reads144
end Go.Pk
