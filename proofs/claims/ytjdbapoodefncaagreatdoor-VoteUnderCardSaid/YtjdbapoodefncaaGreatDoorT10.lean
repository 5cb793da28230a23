/- A PART OF THE PROOF: contracts of functions, each walked once (much of it printed by a program of the author's own). -/
import Derived.Test.YtjdbapoodefncaaGreatDoorT5
import Derived.Test.YtjdbapoodefncaaGreatDoorT2
import Derived.Test.YtjdbapoodefncaaGreatDoorCards
import Derived.Test.YtjdbapoodefncaaGreatDoorTie
set_option linter.unusedSimpArgs false
set_option linter.unusedVariables false
set_option maxRecDepth 4000
namespace Go.Pk
open Go Go.RowKit Go.Proofs
theorem _root_.Go.Proofs.Tryz.reads3 {W : World} : Reads Tryz.prog W 3 LInt := reads_int zcp
theorem _root_.Go.Proofs.Tryz.reads9 {W : World} : Reads Tryz.prog W 9 LStr := reads_str zaA
theorem _root_.Go.Proofs.Tryz.reads59 {W : World} : Reads Tryz.prog W 59 (LSl LStr) := zgn zV zct rfl zct Tryz.reads9
theorem _root_.Go.Proofs.Tryz.reads105 {W : World} : Reads Tryz.prog W 105 (LSl (LSl LStr)) := zgn zaL zct rfl zct Tryz.reads59
theorem _root_.Go.Proofs.Tryz.reads107 {W : World} : Reads Tryz.prog W 107 LChapter := reads_Chapter zaE zct rfl rfl zct Tryz.reads3 rfl rfl zct Tryz.reads105
theorem _root_.Go.Proofs.Tryz.reads26 {W : World} : Reads Tryz.prog W 26 (LSl LChapter) := zgn zaB zct rfl zct Tryz.reads107
theorem _root_.Go.Proofs.Tryz.reads28 {W : World} : Reads Tryz.prog W 28 LText := reads_Text zaO zct rfl rfl zct Tryz.reads26
theorem _root_.Go.Proofs.Tryz.reads122 {W : World} : Reads Tryz.prog W 122 LRule := reads_Rule zbD zct rfl rfl zct Tryz.reads9 rfl rfl zct Tryz.reads9 rfl rfl zct Tryz.reads3
theorem _root_.Go.Proofs.Tryz.reads29 {W : World} : Reads Tryz.prog W 29 (LSl LRule) := zgn zbf zct rfl zct Tryz.reads122
theorem _root_.Go.Proofs.Tryz.reads5 {W : World} : Reads Tryz.prog W 5 LU8 := reads_u8 Tryz.underlying5
theorem _root_.Go.Proofs.Tryz.reads49 {W : World} : Reads Tryz.prog W 49 LPlace := reads_Place zar zct rfl rfl zct Tryz.reads3 rfl rfl zct Tryz.reads3 rfl rfl zct Tryz.reads3
theorem _root_.Go.Proofs.Tryz.reads51 {W : World} : Reads Tryz.prog W 51 LHead := reads_Head zbo zct rfl rfl zct Tryz.reads9 rfl rfl zct Tryz.reads5
theorem _root_.Go.Proofs.Tryz.reads53 {W : World} : Reads Tryz.prog W 53 LDecision := reads_Decision zo zct rfl rfl zct Tryz.reads3 rfl rfl zct Tryz.reads5 rfl rfl zct Tryz.reads9 rfl rfl zct Tryz.reads49 rfl rfl zct Tryz.reads51 rfl rfl zct Tryz.reads3
theorem _root_.Go.Proofs.Tryz.reads30 {W : World} : Reads Tryz.prog W 30 (LSl LDecision) := zgn zaI zct rfl zct Tryz.reads53
theorem _root_.Go.Proofs.Tryz.reads32 {W : World} : Reads Tryz.prog W 32 LLexicon := reads_Lexicon zak zct rfl rfl zct Tryz.reads29 rfl rfl zct Tryz.reads30
theorem _root_.Go.Proofs.Tryz.reads66 {W : World} : Reads Tryz.prog W 66 (LSl LHead) := zgn zaS zct rfl zct Tryz.reads51
theorem _root_.Go.Proofs.Tryz.reads68 {W : World} : Reads Tryz.prog W 68 LQuestion := reads_Question zat zct rfl rfl zct Tryz.reads49 rfl rfl zct Tryz.reads66
theorem _root_.Go.Proofs.Tryz.reads33 {W : World} : Reads Tryz.prog W 33 (LSl LQuestion) := zgn zaz zct rfl zct Tryz.reads68
theorem _root_.Go.Proofs.Tryz.reads38 {W : World} : Reads Tryz.prog W 38 (LSl LInt) := zgn zk zct rfl zct Tryz.reads3
theorem _root_.Go.Proofs.Tryz.reads58 {W : World} : Reads Tryz.prog W 58 LVoter := reads_Voter zbe zct rfl rfl zct Tryz.reads3 rfl rfl zct Tryz.reads3 rfl rfl zct Tryz.reads38
theorem _root_.Go.Proofs.Tryz.reads34 {W : World} : Reads Tryz.prog W 34 (LSl LVoter) := zgn zaH zct rfl zct Tryz.reads58
theorem _root_.Go.Proofs.Tryz.reads36 {W : World} : Reads Tryz.prog W 36 LPoll := reads_Poll zA zct rfl rfl zct Tryz.reads28 rfl rfl zct Tryz.reads32 rfl rfl zct Tryz.reads33 rfl rfl zct Tryz.reads34
theorem _root_.Go.Proofs.Tryz.reads144 {W : World} : Reads Tryz.prog W 144 LU32 := reads_u32 Tryz.underlying144
theorem _root_.Go.Proofs.Tryz.reads63 {W : World} : Reads Tryz.prog W 63 (LSl LU32) := zgn Tryz.underlying63 zct rfl zct Tryz.reads144
end Go.Pk
