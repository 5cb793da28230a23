/- A PART OF THE PROOF: contracts of functions, each walked once (much of it printed by a program of the author's own). -/
import Derived.Test.YtjkkoclmagdpoaaGreatDoorT5
import Derived.Test.YtjkkoclmagdpoaaGreatDoorT4
import Derived.Test.YtjkkoclmagdpoaaGreatDoorCards
import Derived.Test.YtjkkoclmagdpoaaGreatDoorTie
set_option linter.unusedSimpArgs false
set_option linter.unusedVariables false
set_option maxRecDepth 4000
namespace Go.Pk
open Go Go.RowKit Go.Proofs
theorem _root_.Go.Proofs.Tryz.reads3 {W:World}:zcF Tryz.prog W 3 zcy:=zyx zcu
theorem _root_.Go.Proofs.Tryz.reads9 {W:World}:zcF Tryz.prog W 9 zcn:=zyw zbx
theorem _root_.Go.Proofs.Tryz.reads159 {W:World}:zcF Tryz.prog W 159 (LSl zcn):=zkr zC zdj rfl zdj Tryz.reads9
theorem _root_.Go.Proofs.Tryz.reads156 {W:World}:zcF Tryz.prog W 156 (LSl (LSl zcn)):=zkr zaJ zdj rfl zdj Tryz.reads159
theorem _root_.Go.Proofs.Tryz.reads158 {W:World}:zcF Tryz.prog W 158 zax:=ztF zaz zdj rfl rfl zdj Tryz.reads3 rfl rfl zdj Tryz.reads156
theorem _root_.Go.Proofs.Tryz.reads22 {W:World}:zcF Tryz.prog W 22 (LSl zax):=zkr zav zdj rfl zdj Tryz.reads158
theorem _root_.Go.Proofs.Tryz.reads24 {W:World}:zcF Tryz.prog W 24 zwL:=zxg zaI zdj rfl rfl zdj Tryz.reads22
theorem _root_.Go.Proofs.Tryz.reads68 {W:World}:zcF Tryz.prog W 68 zcZ:=zvQ zal zdj rfl rfl zdj Tryz.reads3 rfl rfl zdj Tryz.reads3 rfl rfl zdj Tryz.reads3
theorem _root_.Go.Proofs.Tryz.reads5 {W:World}:zcF Tryz.prog W 5 LU8:=zzD Tryz.underlying5
theorem _root_.Go.Proofs.Tryz.reads165 {W:World}:zcF Tryz.prog W 165 zdS:=ztC zai zdj rfl rfl zdj Tryz.reads68 rfl rfl zdj Tryz.reads5 rfl rfl zdj Tryz.reads9
theorem _root_.Go.Proofs.Tryz.reads95 {W:World}:zcF Tryz.prog W 95 (LSl zdS):=zkr zbf zdj rfl zdj Tryz.reads165
theorem _root_.Go.Proofs.Tryz.reads97 {W:World}:zcF Tryz.prog W 97 zeS:=zxj zbt zdj rfl rfl zdj Tryz.reads3 rfl rfl zdj Tryz.reads95
theorem _root_.Go.Proofs.Tryz.reads25 {W:World}:zcF Tryz.prog W 25 (LSl zeS):=zkr zcv zdj rfl zdj Tryz.reads97
theorem _root_.Go.Proofs.Tryz.reads161 {W:World}:zcF Tryz.prog W 161 zcS:=zxh zcg zdj rfl rfl zdj Tryz.reads9 rfl rfl zdj Tryz.reads9 rfl rfl zdj Tryz.reads3
theorem _root_.Go.Proofs.Tryz.reads26 {W:World}:zcF Tryz.prog W 26 (LSl zcS):=zkr zcm zdj rfl zdj Tryz.reads161
theorem _root_.Go.Proofs.Tryz.reads38 {W:World}:zcF Tryz.prog W 38 zen:=zxi zcU zdj rfl rfl zdj Tryz.reads9 rfl rfl zdj Tryz.reads5
theorem _root_.Go.Proofs.Tryz.reads163 {W:World}:zcF Tryz.prog W 163 zau:=zsf zI zdj rfl rfl zdj Tryz.reads3 rfl rfl zdj Tryz.reads5 rfl rfl zdj Tryz.reads9 rfl rfl zdj Tryz.reads68 rfl rfl zdj Tryz.reads38 rfl rfl zdj Tryz.reads3
theorem _root_.Go.Proofs.Tryz.reads27 {W:World}:zcF Tryz.prog W 27 (LSl zau):=zkr zbg zdj rfl zdj Tryz.reads163
theorem _root_.Go.Proofs.Tryz.reads29 {W:World}:zcF Tryz.prog W 29 ztt:=ztD zaY zdj rfl rfl zdj Tryz.reads26 rfl rfl zdj Tryz.reads27
theorem _root_.Go.Proofs.Tryz.reads211 {W:World}:zcF Tryz.prog W 211 zbw:=ztA zaa zdj rfl rfl zdj Tryz.reads3 rfl rfl zdj Tryz.reads3 rfl rfl zdj Tryz.reads3 rfl rfl zdj Tryz.reads3 rfl rfl zdj Tryz.reads3
theorem _root_.Go.Proofs.Tryz.reads30 {W:World}:zcF Tryz.prog W 30 (LSl zbw):=zkr zbH zdj rfl zdj Tryz.reads211
theorem _root_.Go.Proofs.Tryz.reads32 {W:World}:zcF Tryz.prog W 32 zmr:=ztE zcf zdj rfl rfl zdj Tryz.reads3 rfl rfl zdj Tryz.reads30
theorem _root_.Go.Proofs.Tryz.reads34 {W:World}:zcF Tryz.prog W 34 zDd:=zyy Tryz.underlying34 zdj rfl rfl zdj Tryz.reads3 rfl rfl zdj Tryz.reads5
theorem _root_.Go.Proofs.Tryz.reads36 {W:World}:zcF Tryz.prog W 36 zwM:=ztB zah zdj rfl rfl zdj Tryz.reads24 rfl rfl zdj Tryz.reads25 rfl rfl zdj Tryz.reads29 rfl rfl zdj Tryz.reads32 rfl rfl zdj Tryz.reads34
end Go.Pk
