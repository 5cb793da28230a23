/- A PART OF THE PROOF: contracts of functions. -/
import Derived.Test.YtjkkoclmagdpoaaGreatDoorT5
import Derived.Test.YtjkkoclmagdpoaaGreatDoorCards
import Derived.Test.YtjkkoclmagdpoaaGreatDoorTie
set_option linter.all false
set_option maxRecDepth 4000
namespace Go.Pk
open Go Go.RowKit Go.Proofs
theorem _root_.Go.Proofs.Tryz.reads3 {W:World}:zdr Tryz.prog W 3 zeg:=zDr zcW
theorem _root_.Go.Proofs.Tryz.reads9 {W:World}:zdr Tryz.prog W 9 zea:=zDq zcc
theorem _root_.Go.Proofs.Tryz.reads159 {W:World}:zdr Tryz.prog W 159 (LSl zea):=zlB zJ zeu rfl zeu Tryz.reads9
theorem _root_.Go.Proofs.Tryz.reads156 {W:World}:zdr Tryz.prog W 156 (LSl (LSl zea)):=zlB zaW zeu rfl zeu Tryz.reads159
theorem _root_.Go.Proofs.Tryz.reads158 {W:World}:zdr Tryz.prog W 158 zaN:=zxZ zaP zeu rfl rfl zeu Tryz.reads3 rfl rfl zeu Tryz.reads156
theorem _root_.Go.Proofs.Tryz.reads22 {W:World}:zdr Tryz.prog W 22 (LSl zaN):=zlB zaJ zeu rfl zeu Tryz.reads158
theorem _root_.Go.Proofs.Tryz.reads24 {W:World}:zdr Tryz.prog W 24 zBw:=zBQ zaY zeu rfl rfl zeu Tryz.reads22
theorem _root_.Go.Proofs.Tryz.reads68 {W:World}:zdr Tryz.prog W 68 zdO:=zAx zaC zeu rfl rfl zeu Tryz.reads3 rfl rfl zeu Tryz.reads3 rfl rfl zeu Tryz.reads3
theorem _root_.Go.Proofs.Tryz.reads5 {W:World}:zdr Tryz.prog W 5 LU8:=zEx Tryz.underlying5
theorem _root_.Go.Proofs.Tryz.reads165 {W:World}:zdr Tryz.prog W 165 zgz:=zxW zaO zeu rfl rfl zeu Tryz.reads68 rfl rfl zeu Tryz.reads5 rfl rfl zeu Tryz.reads9
theorem _root_.Go.Proofs.Tryz.reads95 {W:World}:zdr Tryz.prog W 95 (LSl zgz):=zlB zco zeu rfl zeu Tryz.reads165
theorem _root_.Go.Proofs.Tryz.reads97 {W:World}:zdr Tryz.prog W 97 zhl:=zBU zcP zeu rfl rfl zeu Tryz.reads3 rfl rfl zeu Tryz.reads95
theorem _root_.Go.Proofs.Tryz.reads25 {W:World}:zdr Tryz.prog W 25 (LSl zhl):=zlB zed zeu rfl zeu Tryz.reads97
theorem _root_.Go.Proofs.Tryz.reads161 {W:World}:zdr Tryz.prog W 161 zeE:=zBR zdG zeu rfl rfl zeu Tryz.reads9 rfl rfl zeu Tryz.reads9 rfl rfl zeu Tryz.reads3
theorem _root_.Go.Proofs.Tryz.reads26 {W:World}:zdr Tryz.prog W 26 (LSl zeE):=zlB zdS zeu rfl zeu Tryz.reads161
theorem _root_.Go.Proofs.Tryz.reads38 {W:World}:zdr Tryz.prog W 38 zhb:=zBS zeD zeu rfl rfl zeu Tryz.reads9 rfl rfl zeu Tryz.reads5
theorem _root_.Go.Proofs.Tryz.reads163 {W:World}:zdr Tryz.prog W 163 zaG:=zwB zQ zeu rfl rfl zeu Tryz.reads3 rfl rfl zeu Tryz.reads5 rfl rfl zeu Tryz.reads9 rfl rfl zeu Tryz.reads68 rfl rfl zeu Tryz.reads38 rfl rfl zeu Tryz.reads3
theorem _root_.Go.Proofs.Tryz.reads27 {W:World}:zdr Tryz.prog W 27 (LSl zaG):=zlB zbV zeu rfl zeu Tryz.reads163
theorem _root_.Go.Proofs.Tryz.reads29 {W:World}:zdr Tryz.prog W 29 zxP:=zxX zbC zeu rfl rfl zeu Tryz.reads26 rfl rfl zeu Tryz.reads27
theorem _root_.Go.Proofs.Tryz.reads211 {W:World}:zdr Tryz.prog W 211 zcp:=zxU zad zeu rfl rfl zeu Tryz.reads3 rfl rfl zeu Tryz.reads3 rfl rfl zeu Tryz.reads3 rfl rfl zeu Tryz.reads3 rfl rfl zeu Tryz.reads3
theorem _root_.Go.Proofs.Tryz.reads30 {W:World}:zdr Tryz.prog W 30 (LSl zcp):=zlB zcQ zeu rfl zeu Tryz.reads211
theorem _root_.Go.Proofs.Tryz.reads32 {W:World}:zdr Tryz.prog W 32 zqy:=zxY zdF zeu rfl rfl zeu Tryz.reads3 rfl rfl zeu Tryz.reads30
theorem _root_.Go.Proofs.Tryz.reads34 {W:World}:zdr Tryz.prog W 34 zHI:=zDu Tryz.underlying34 zeu rfl rfl zeu Tryz.reads3 rfl rfl zeu Tryz.reads5
theorem _root_.Go.Proofs.Tryz.reads36 {W:World}:zdr Tryz.prog W 36 zBx:=zxV zaA zeu rfl rfl zeu Tryz.reads24 rfl rfl zeu Tryz.reads25 rfl rfl zeu Tryz.reads29 rfl rfl zeu Tryz.reads32 rfl rfl zeu Tryz.reads34
theorem _root_.Go.Proofs.Tryz.reads138 {W:World}:zdr Tryz.prog W 138 zHH:=zDt Tryz.underlying138 zeu rfl rfl zeu Tryz.reads3 rfl rfl zeu Tryz.reads3 rfl rfl zeu Tryz.reads3
theorem _root_.Go.Proofs.Tryz.reads140 {W:World}:zdr Tryz.prog W 140 zqf:=zDs zfG zeu rfl rfl zeu Tryz.reads68 rfl rfl zeu Tryz.reads138 rfl rfl zeu Tryz.reads5
theorem _root_.Go.Proofs.Tryz.reads123 {W:World}:zdr Tryz.prog W 123 (LSl zqf):=zlB zdh zeu rfl zeu Tryz.reads140
theorem _root_.Go.Proofs.Tryz.reads125 {W:World}:zdr Tryz.prog W 125 zlT:=zBT zcS zeu rfl rfl zeu Tryz.reads9 rfl rfl zeu Tryz.reads123
theorem _root_.Go.Proofs.Tryz.reads53 {W:World}:zdr Tryz.prog W 53 (LSl zlT):=zlB zbG zeu rfl zeu Tryz.reads125
theorem _root_.Go.Proofs.Tryz.reads55 {W:World}:zdr Tryz.prog W 55 zev:=zzo zbs zeu rfl rfl zeu Tryz.reads38 rfl rfl zeu Tryz.reads53
theorem _root_.Go.Proofs.Tryz.reads43 {W:World}:zdr Tryz.prog W 43 (LSl zev):=zlB zbt zeu rfl zeu Tryz.reads55
theorem _root_.Go.Proofs.Tryz.reads45 {W:World}:zdr Tryz.prog W 45 zCS:=zzn zbz zeu rfl rfl zeu Tryz.reads43
end Go.Pk
