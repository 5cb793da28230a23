/- A PART OF THE PROOF: contracts of functions, each walked once (much of it printed by a program of the author's own). -/
import Derived.Test.YtjdbapoodefncaaGreatDoorT5
import Derived.Test.YtjdbapoodefncaaGreatDoorT2
import Derived.Test.YtjdbapoodefncaaGreatDoorCards
import Derived.Test.YtjdbapoodefncaaGreatDoorTie
set_option linter.unusedSimpArgs false
set_option linter.unusedVariables false
set_option maxRecDepth 4000
namespace Go.Pk
open Go Go.RowKit Go.Proofs
theorem _root_.Go.Proofs.Tryz.reads3 {W : World} : Reads Tryz.prog W 3 LInt := reads_int zck
theorem _root_.Go.Proofs.Tryz.reads9 {W : World} : Reads Tryz.prog W 9 LStr := reads_str zaq
theorem _root_.Go.Proofs.Tryz.reads59 {W : World} : Reads Tryz.prog W 59 (LSl LStr) := zgm zT zbx rfl zbx Tryz.reads9
theorem _root_.Go.Proofs.Tryz.reads105 {W : World} : Reads Tryz.prog W 105 (LSl (LSl LStr)) := zgm zaW zbx rfl zbx Tryz.reads59
theorem _root_.Go.Proofs.Tryz.reads107 {W : World} : Reads Tryz.prog W 107 LChapter := reads_Chapter zaV zbx rfl rfl zbx Tryz.reads3 rfl rfl zbx Tryz.reads105
theorem _root_.Go.Proofs.Tryz.reads26 {W : World} : Reads Tryz.prog W 26 (LSl LChapter) := zgm zaY zbx rfl zbx Tryz.reads107
theorem _root_.Go.Proofs.Tryz.reads28 {W : World} : Reads Tryz.prog W 28 LText := reads_Text zbf zbx rfl rfl zbx Tryz.reads26
theorem _root_.Go.Proofs.Tryz.reads122 {W : World} : Reads Tryz.prog W 122 LRule := reads_Rule zbD zbx rfl rfl zbx Tryz.reads9 rfl rfl zbx Tryz.reads9 rfl rfl zbx Tryz.reads3
theorem _root_.Go.Proofs.Tryz.reads29 {W : World} : Reads Tryz.prog W 29 (LSl LRule) := zgm zbn zbx rfl zbx Tryz.reads122
theorem _root_.Go.Proofs.Tryz.reads5 {W : World} : Reads Tryz.prog W 5 LU8 := reads_u8 Tryz.underlying5
theorem _root_.Go.Proofs.Tryz.reads49 {W : World} : Reads Tryz.prog W 49 LPlace := reads_Place zan zbx rfl rfl zbx Tryz.reads3 rfl rfl zbx Tryz.reads3 rfl rfl zbx Tryz.reads3
theorem _root_.Go.Proofs.Tryz.reads51 {W : World} : Reads Tryz.prog W 51 LHead := reads_Head zbm zbx rfl rfl zbx Tryz.reads9 rfl rfl zbx Tryz.reads5
theorem _root_.Go.Proofs.Tryz.reads53 {W : World} : Reads Tryz.prog W 53 LDecision := reads_Decision zo zbx rfl rfl zbx Tryz.reads3 rfl rfl zbx Tryz.reads5 rfl rfl zbx Tryz.reads9 rfl rfl zbx Tryz.reads49 rfl rfl zbx Tryz.reads51 rfl rfl zbx Tryz.reads3
theorem _root_.Go.Proofs.Tryz.reads30 {W : World} : Reads Tryz.prog W 30 (LSl LDecision) := zgm zaB zbx rfl zbx Tryz.reads53
theorem _root_.Go.Proofs.Tryz.reads32 {W : World} : Reads Tryz.prog W 32 LLexicon := reads_Lexicon zal zbx rfl rfl zbx Tryz.reads29 rfl rfl zbx Tryz.reads30
theorem _root_.Go.Proofs.Tryz.reads66 {W : World} : Reads Tryz.prog W 66 (LSl LHead) := zgm zba zbx rfl zbx Tryz.reads51
theorem _root_.Go.Proofs.Tryz.reads68 {W : World} : Reads Tryz.prog W 68 LQuestion := reads_Question zaD zbx rfl rfl zbx Tryz.reads49 rfl rfl zbx Tryz.reads66
theorem _root_.Go.Proofs.Tryz.reads33 {W : World} : Reads Tryz.prog W 33 (LSl LQuestion) := zgm zao zbx rfl zbx Tryz.reads68
theorem _root_.Go.Proofs.Tryz.reads38 {W : World} : Reads Tryz.prog W 38 (LSl LInt) := zgm zh zbx rfl zbx Tryz.reads3
theorem _root_.Go.Proofs.Tryz.reads58 {W : World} : Reads Tryz.prog W 58 LVoter := reads_Voter zbe zbx rfl rfl zbx Tryz.reads3 rfl rfl zbx Tryz.reads3 rfl rfl zbx Tryz.reads38
theorem _root_.Go.Proofs.Tryz.reads34 {W : World} : Reads Tryz.prog W 34 (LSl LVoter) := zgm zaA zbx rfl zbx Tryz.reads58
theorem _root_.Go.Proofs.Tryz.reads36 {W : World} : Reads Tryz.prog W 36 LPoll := reads_Poll zA zbx rfl rfl zbx Tryz.reads28 rfl rfl zbx Tryz.reads32 rfl rfl zbx Tryz.reads33 rfl rfl zbx Tryz.reads34
theorem _root_.Go.Proofs.Tryz.reads144 {W : World} : Reads Tryz.prog W 144 LU32 := reads_u32 Tryz.underlying144
theorem _root_.Go.Proofs.Tryz.reads63 {W : World} : Reads Tryz.prog W 63 (LSl LU32) := zgm Tryz.underlying63 zbx rfl zbx Tryz.reads144
end Go.Pk
