/- A PART OF THE PROOF: contracts of functions, each walked once (much of it printed by a program of the author's own). -/
import Derived.Test.YtjdbapoodefncaaGreatDoorT5
import Derived.Test.YtjdbapoodefncaaGreatDoorT2
import Derived.Test.YtjdbapoodefncaaGreatDoorCards
import Derived.Test.YtjdbapoodefncaaGreatDoorTie
set_option linter.unusedSimpArgs false
set_option linter.unusedVariables false
set_option maxRecDepth 4000
namespace Go.Pk
open Go Go.RowKit Go.Proofs
theorem _root_.Go.Proofs.Tryz.reads3 {W : World} : Reads Tryz.prog W 3 LInt := reads_int zcg
theorem _root_.Go.Proofs.Tryz.reads9 {W : World} : Reads Tryz.prog W 9 LStr := reads_str zax
theorem _root_.Go.Proofs.Tryz.reads59 {W : World} : Reads Tryz.prog W 59 (LSl LStr) := zgb zW zcp rfl zcp Tryz.reads9
theorem _root_.Go.Proofs.Tryz.reads105 {W : World} : Reads Tryz.prog W 105 (LSl (LSl LStr)) := zgb zaO zcp rfl zcp Tryz.reads59
theorem _root_.Go.Proofs.Tryz.reads107 {W : World} : Reads Tryz.prog W 107 LChapter := reads_Chapter zaD zcp rfl rfl zcp Tryz.reads3 rfl rfl zcp Tryz.reads105
theorem _root_.Go.Proofs.Tryz.reads26 {W : World} : Reads Tryz.prog W 26 (LSl LChapter) := zgb zaH zcp rfl zcp Tryz.reads107
theorem _root_.Go.Proofs.Tryz.reads28 {W : World} : Reads Tryz.prog W 28 LText := reads_Text zaP zcp rfl rfl zcp Tryz.reads26
theorem _root_.Go.Proofs.Tryz.reads122 {W : World} : Reads Tryz.prog W 122 LRule := reads_Rule zbz zcp rfl rfl zcp Tryz.reads9 rfl rfl zcp Tryz.reads9 rfl rfl zcp Tryz.reads3
theorem _root_.Go.Proofs.Tryz.reads29 {W : World} : Reads Tryz.prog W 29 (LSl LRule) := zgb zbD zcp rfl zcp Tryz.reads122
theorem _root_.Go.Proofs.Tryz.reads5 {W : World} : Reads Tryz.prog W 5 LU8 := reads_u8 Tryz.underlying5
theorem _root_.Go.Proofs.Tryz.reads49 {W : World} : Reads Tryz.prog W 49 LPlace := reads_Place zan zcp rfl rfl zcp Tryz.reads3 rfl rfl zcp Tryz.reads3 rfl rfl zcp Tryz.reads3
theorem _root_.Go.Proofs.Tryz.reads51 {W : World} : Reads Tryz.prog W 51 LHead := reads_Head zbm zcp rfl rfl zcp Tryz.reads9 rfl rfl zcp Tryz.reads5
theorem _root_.Go.Proofs.Tryz.reads53 {W : World} : Reads Tryz.prog W 53 LDecision := reads_Decision zp zcp rfl rfl zcp Tryz.reads3 rfl rfl zcp Tryz.reads5 rfl rfl zcp Tryz.reads9 rfl rfl zcp Tryz.reads49 rfl rfl zcp Tryz.reads51 rfl rfl zcp Tryz.reads3
theorem _root_.Go.Proofs.Tryz.reads30 {W : World} : Reads Tryz.prog W 30 (LSl LDecision) := zgb zaU zcp rfl zcp Tryz.reads53
theorem _root_.Go.Proofs.Tryz.reads32 {W : World} : Reads Tryz.prog W 32 LLexicon := reads_Lexicon zaz zcp rfl rfl zcp Tryz.reads29 rfl rfl zcp Tryz.reads30
theorem _root_.Go.Proofs.Tryz.reads66 {W : World} : Reads Tryz.prog W 66 (LSl LHead) := zgb zaT zcp rfl zcp Tryz.reads51
theorem _root_.Go.Proofs.Tryz.reads68 {W : World} : Reads Tryz.prog W 68 LQuestion := reads_Question zaw zcp rfl rfl zcp Tryz.reads49 rfl rfl zcp Tryz.reads66
theorem _root_.Go.Proofs.Tryz.reads33 {W : World} : Reads Tryz.prog W 33 (LSl LQuestion) := zgb zap zcp rfl zcp Tryz.reads68
theorem _root_.Go.Proofs.Tryz.reads38 {W : World} : Reads Tryz.prog W 38 (LSl LInt) := zgb zg zcp rfl zcp Tryz.reads3
theorem _root_.Go.Proofs.Tryz.reads58 {W : World} : Reads Tryz.prog W 58 LVoter := reads_Voter zaB zcp rfl rfl zcp Tryz.reads3 rfl rfl zcp Tryz.reads3 rfl rfl zcp Tryz.reads38
theorem _root_.Go.Proofs.Tryz.reads34 {W : World} : Reads Tryz.prog W 34 (LSl LVoter) := zgb zao zcp rfl zcp Tryz.reads58
theorem _root_.Go.Proofs.Tryz.reads36 {W : World} : Reads Tryz.prog W 36 LPoll := reads_Poll zz zcp rfl rfl zcp Tryz.reads28 rfl rfl zcp Tryz.reads32 rfl rfl zcp Tryz.reads33 rfl rfl zcp Tryz.reads34
theorem _root_.Go.Proofs.Tryz.reads144 {W : World} : Reads Tryz.prog W 144 LU32 := reads_u32 Tryz.underlying144
theorem _root_.Go.Proofs.Tryz.reads63 {W : World} : Reads Tryz.prog W 63 (LSl LU32) := zgb Tryz.underlying63 zcp rfl zcp Tryz.reads144
end Go.Pk
