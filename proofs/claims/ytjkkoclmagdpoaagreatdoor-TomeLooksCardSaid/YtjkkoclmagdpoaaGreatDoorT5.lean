/- A PART OF THE PROOF: contracts of functions. -/
import Derived.Test.YtjkkoclmagdpoaaGreatDoorT4
import Derived.Test.YtjkkoclmagdpoaaGreatDoorProg
set_option linter.all false
set_option maxRecDepth 4000
namespace Go.Pk
open Go Go.RowKit Go.Proofs
theorem _root_.Go.Proofs.Tryz.mixed:Tryz.prog.follows .mixedOrders=true:=by kernel_rfl
theorem _root_.Go.Proofs.Tryz.info3:Tryz.prog.info? 3=some Tryz.t3:=by kernel_rfl
theorem _root_.Go.Proofs.Tryz.info9:Tryz.prog.info? 9=some Tryz.t9:=by kernel_rfl
theorem _root_.Go.Proofs.Tryz.info32:Tryz.prog.info? 32=some Tryz.t32:=by kernel_rfl
theorem _root_.Go.Proofs.Tryz.info38:Tryz.prog.info? 38=some Tryz.t38:=by kernel_rfl
theorem _root_.Go.Proofs.Tryz.info46:Tryz.prog.info? 46=some Tryz.t46:=by kernel_rfl
theorem _root_.Go.Proofs.Tryz.info55:Tryz.prog.info? 55=some Tryz.t55:=by kernel_rfl
theorem _root_.Go.Proofs.Tryz.info68:Tryz.prog.info? 68=some Tryz.t68:=by kernel_rfl
theorem _root_.Go.Proofs.Tryz.info97:Tryz.prog.info? 97=some Tryz.t97:=by kernel_rfl
theorem _root_.Go.Proofs.Tryz.info125:Tryz.prog.info? 125=some Tryz.t125:=by kernel_rfl
theorem _root_.Go.Proofs.Tryz.info136:Tryz.prog.info? 136=some Tryz.t136:=by kernel_rfl
theorem _root_.Go.Proofs.Tryz.info140:Tryz.prog.info? 140=some Tryz.t140:=by kernel_rfl
theorem _root_.Go.Proofs.Tryz.info158:Tryz.prog.info? 158=some Tryz.t158:=by kernel_rfl
theorem _root_.Go.Proofs.Tryz.info159:Tryz.prog.info? 159=some Tryz.t159:=by kernel_rfl
theorem _root_.Go.Proofs.Tryz.info161:Tryz.prog.info? 161=some Tryz.t161:=by kernel_rfl
theorem _root_.Go.Proofs.Tryz.info163:Tryz.prog.info? 163=some Tryz.t163:=by kernel_rfl
theorem _root_.Go.Proofs.Tryz.info165:Tryz.prog.info? 165=some Tryz.t165:=by kernel_rfl
theorem _root_.Go.Proofs.Tryz.info181:Tryz.prog.info? 181=some Tryz.t181:=by kernel_rfl
theorem _root_.Go.Proofs.Tryz.info211:Tryz.prog.info? 211=some Tryz.t211:=by kernel_rfl
theorem _root_.Go.Proofs.Tryz.info230:Tryz.prog.info? 230=some Tryz.t230:=by kernel_rfl
theorem _root_.Go.Proofs.Tryz.info281:Tryz.prog.info? 281=some Tryz.t281:=by kernel_rfl
theorem _root_.Go.Proofs.Tryz.eq_Cut (x y:Cut) (w:World):(binOp .eql 34 (.agg [.int .i64 x.width,.int .u8 x.side].toArray) (.agg [.int .i64 y.width,.int .u8 y.side].toArray)).run Tryz.prog w=.ok (.bool (decide (x=y))) w:=by
 rcases x with ⟨awidth,aside⟩
 rcases y with ⟨bwidth,bside⟩
 rw[run_eql_struct];simp[go_sem,zae,ziO]
 repeat' split
 all_goals simp_all
theorem _root_.Go.Proofs.Tryz.eq_Head (x y:Head) (w:World):(binOp .eql 38 (.agg [zae x.stem,.int .u8 x.mark].toArray) (.agg [zae y.stem,.int .u8 y.mark].toArray)).run Tryz.prog w=.ok (.bool (decide (x=y))) w:=by
 rcases x with ⟨astem,amark⟩
 rcases y with ⟨bstem,bmark⟩
 rw[run_eql_struct];simp[go_sem,zae,ziO]
 repeat' split
 all_goals simp_all
theorem _root_.Go.Proofs.Tryz.eq_Place (x y:Place) (w:World):(binOp .eql 68 (.agg [.int .i64 x.chapter,.int .i64 x.line,.int .i64 x.word].toArray) (.agg [.int .i64 y.chapter,.int .i64 y.line,.int .i64 y.word].toArray)).run Tryz.prog w=.ok (.bool (decide (x=y))) w:=by
 rcases x with ⟨achapter,aline,aword⟩
 rcases y with ⟨bchapter,bline,bword⟩
 rw[run_eql_struct];simp[go_sem,zae,ziO]
 repeat' split
 all_goals simp_all
theorem _root_.Go.Proofs.Tryz.eq_Row (x y:Row) (w:World):(binOp .eql 140 (.agg [.int .i64 x.at_.chapter,.int .i64 x.at_.line,.int .i64 x.at_.word,.int .i64 x.ref.chapter,.int .i64 x.ref.line,.int .i64 x.ref.word,.int .u8 x.sure].toArray) (.agg [.int .i64 y.at_.chapter,.int .i64 y.at_.line,.int .i64 y.at_.word,.int .i64 y.ref.chapter,.int .i64 y.ref.line,.int .i64 y.ref.word,.int .u8 y.sure].toArray)).run Tryz.prog w=.ok (.bool (decide (x=y))) w:=by
 rcases x with ⟨⟨aat_chapter,aat_line,aat_word⟩,⟨arefchapter,arefline,arefword⟩,asure⟩
 rcases y with ⟨⟨bat_chapter,bat_line,bat_word⟩,⟨brefchapter,brefline,brefword⟩,bsure⟩
 rw[run_eql_struct];simp[go_sem,zae,ziO]
 repeat' split
 all_goals simp_all
theorem _root_.Go.Proofs.Tryz.eq_Found (x y:Found) (w:World):(binOp .eql 142 (.agg [zae x.head.stem,.int .u8 x.head.mark,zae x.word,.int .i64 x.row.at_.chapter,.int .i64 x.row.at_.line,.int .i64 x.row.at_.word,.int .i64 x.row.ref.chapter,.int .i64 x.row.ref.line,.int .i64 x.row.ref.word,.int .u8 x.row.sure].toArray) (.agg [zae y.head.stem,.int .u8 y.head.mark,zae y.word,.int .i64 y.row.at_.chapter,.int .i64 y.row.at_.line,.int .i64 y.row.at_.word,.int .i64 y.row.ref.chapter,.int .i64 y.row.ref.line,.int .i64 y.row.ref.word,.int .u8 y.row.sure].toArray)).run Tryz.prog w=.ok (.bool (decide (x=y))) w:=by
 rcases x with ⟨⟨aheadstem,aheadmark⟩,aword,⟨⟨arowat_chapter,arowat_line,arowat_word⟩,⟨arowrefchapter,arowrefline,arowrefword⟩,arowsure⟩⟩
 rcases y with ⟨⟨bheadstem,bheadmark⟩,bword,⟨⟨browat_chapter,browat_line,browat_word⟩,⟨browrefchapter,browrefline,browrefword⟩,browsure⟩⟩
 rw[run_eql_struct];simp[go_sem,zae,ziO]
 repeat' split
 all_goals simp_all
theorem _root_.Go.Proofs.Tryz.eq_Rule (x y:Rule) (w:World):(binOp .eql 161 (.agg [zae x.cut,zae x.put,.int .i64 x.least].toArray) (.agg [zae y.cut,zae y.put,.int .i64 y.least].toArray)).run Tryz.prog w=.ok (.bool (decide (x=y))) w:=by
 rcases x with ⟨acut,aput,aleast⟩
 rcases y with ⟨bcut,bput,bleast⟩
 rw[run_eql_struct];simp[go_sem,zae,ziO]
 repeat' split
 all_goals simp_all
theorem _root_.Go.Proofs.Tryz.eq_Decision (x y:Decision) (w:World):(binOp .eql 163 (.agg [.int .i64 x.number,.int .u8 x.kind,zae x.form,.int .i64 x.at_.chapter,.int .i64 x.at_.line,.int .i64 x.at_.word,zae x.to.stem,.int .u8 x.to.mark,.int .i64 x.of_].toArray) (.agg [.int .i64 y.number,.int .u8 y.kind,zae y.form,.int .i64 y.at_.chapter,.int .i64 y.at_.line,.int .i64 y.at_.word,zae y.to.stem,.int .u8 y.to.mark,.int .i64 y.of_].toArray)).run Tryz.prog w=.ok (.bool (decide (x=y))) w:=by
 rcases x with ⟨anumber,akind,aform,⟨aat_chapter,aat_line,aat_word⟩,⟨atostem,atomark⟩,aof_⟩
 rcases y with ⟨bnumber,bkind,bform,⟨bat_chapter,bat_line,bat_word⟩,⟨btostem,btomark⟩,bof_⟩
 rw[run_eql_struct];simp[go_sem,zae,ziO]
 repeat' split
 all_goals simp_all
theorem _root_.Go.Proofs.Tryz.eq_Reading (x y:Reading) (w:World):(binOp .eql 165 (.agg [.int .i64 x.at_.chapter,.int .i64 x.at_.line,.int .i64 x.at_.word,.int .u8 x.kind,zae x.word].toArray) (.agg [.int .i64 y.at_.chapter,.int .i64 y.at_.line,.int .i64 y.at_.word,.int .u8 y.kind,zae y.word].toArray)).run Tryz.prog w=.ok (.bool (decide (x=y))) w:=by
 rcases x with ⟨⟨aat_chapter,aat_line,aat_word⟩,akind,aword⟩
 rcases y with ⟨⟨bat_chapter,bat_line,bat_word⟩,bkind,bword⟩
 rw[run_eql_struct];simp[go_sem,zae,ziO]
 repeat' split
 all_goals simp_all
theorem _root_.Go.Proofs.Tryz.eq_Stretch (x y:Stretch) (w:World):(binOp .eql 211 (.agg [.int .i64 x.chapter,.int .i64 x.from_,.int .i64 x.to,.int .i64 x.as_,.int .i64 x.first].toArray) (.agg [.int .i64 y.chapter,.int .i64 y.from_,.int .i64 y.to,.int .i64 y.as_,.int .i64 y.first].toArray)).run Tryz.prog w=.ok (.bool (decide (x=y))) w:=by
 rcases x with ⟨achapter,afrom_,ato,aas_,afirst⟩
 rcases y with ⟨bchapter,bfrom_,bto,bas_,bfirst⟩
 rw[run_eql_struct];simp[go_sem,zae,ziO]
 repeat' split
 all_goals simp_all
def zjC:=@Tryz.call117
def zhJ:=@Tryz.call142
def zoa:=@Tryz.call222
def zkx:=@Tryz.eqGuardType163
def zhR:=@Tryz.eqGuardType38
def zgr:=@Tryz.eqGuardType68
def zhk:=@Tryz.isAgg123
def zjm:=@Tryz.isAgg138
def zil:=@Tryz.isAgg140
def zdd:=@Tryz.isAgg156
def zjl:=@Tryz.isAgg158
def zfK:=@Tryz.isAgg159
def zmN:=@Tryz.isAgg161
def zcs:=@Tryz.isAgg163
def zjk:=@Tryz.isAgg165
def zmM:=@Tryz.isAgg181
def zgJ:=@Tryz.isAgg211
def zcJ:=@Tryz.isAgg22
def zaX:=@Tryz.isAgg24
def zhI:=@Tryz.isAgg25
def zhH:=@Tryz.isAgg26
def zlQ:=@Tryz.isAgg265
def zgQ:=@Tryz.isAgg27
def zmL:=@Tryz.isAgg288
def zeK:=@Tryz.isAgg29
def zkQ:=@Tryz.isAgg292
def zO:=@Tryz.isAgg3
def zhG:=@Tryz.isAgg30
def zft:=@Tryz.isAgg32
def zeX:=@Tryz.isAgg36
def zcm:=@Tryz.isAgg38
def zfF:=@Tryz.isAgg4
def zdP:=@Tryz.isAgg43
def zde:=@Tryz.isAgg45
def zda:=@Tryz.isAgg5
def zep:=@Tryz.isAgg53
def zjZ:=@Tryz.isAgg55
def zaE:=@Tryz.isAgg68
def zaZ:=@Tryz.isAgg9
def zgl:=@Tryz.isAgg95
def zjY:=@Tryz.isAgg97
def zbh:=@Tryz.mixed
def zgf:=@Tryz.results104
def zmf:=@Tryz.results107
def zkP:=@Tryz.results109
def zkO:=@Tryz.results110
def zme:=@Tryz.results125
def zfM:=@Tryz.results162
def zju:=@Tryz.results164
def zkg:=@Tryz.results181
def zlP:=@Tryz.results19
def zmd:=@Tryz.results193
def zlO:=@Tryz.results21
def zlN:=@Tryz.results36
def znd:=@Tryz.results51
def zhC:=@Tryz.results93
def zlM:=@Tryz.results97
def zfE:=@Tryz.sizeOf123
def zdN:=@Tryz.sizeOf125
def zkf:=@Tryz.sizeOf136
def zkE:=@Tryz.sizeOf137
def zeo:=@Tryz.sizeOf138
def zdz:=@Tryz.sizeOf140
def zkD:=@Tryz.sizeOf142
def zcj:=@Tryz.sizeOf156
def zbA:=@Tryz.sizeOf158
def zeY:=@Tryz.sizeOf159
def zgH:=@Tryz.sizeOf161
def zaH:=@Tryz.sizeOf163
def zdo:=@Tryz.sizeOf165
def zfP:=@Tryz.sizeOf181
def zdn:=@Tryz.sizeOf211
def zbW:=@Tryz.sizeOf22
def zac:=@Tryz.sizeOf24
def zhj:=@Tryz.sizeOf25
def ziw:=@Tryz.sizeOf251
def zgy:=@Tryz.sizeOf26
def zkC:=@Tryz.sizeOf265
def zfO:=@Tryz.sizeOf267
def zfJ:=@Tryz.sizeOf27
def ziV:=@Tryz.sizeOf281
def zlL:=@Tryz.sizeOf288
def zcL:=@Tryz.sizeOf29
def zhi:=@Tryz.sizeOf292
def zI:=@Tryz.sizeOf3
def zgx:=@Tryz.sizeOf30
def zdk:=@Tryz.sizeOf32
def znc:=@Tryz.sizeOf338
def zjI:=@Tryz.sizeOf34
def zdc:=@Tryz.sizeOf36
def zaj:=@Tryz.sizeOf38
def zeJ:=@Tryz.sizeOf4
def zcK:=@Tryz.sizeOf43
def zcd:=@Tryz.sizeOf45
def zcg:=@Tryz.sizeOf5
def zdj:=@Tryz.sizeOf53
def zcR:=@Tryz.sizeOf55
def zR:=@Tryz.sizeOf68
def zap:=@Tryz.sizeOf9
def zfy:=@Tryz.sizeOf95
def zgw:=@Tryz.sizeOf97
def zlc:=@Tryz.underlying107
def zgO:=@Tryz.underlying109
def zdh:=@Tryz.underlying123
def zcS:=@Tryz.underlying125
def zjX:=@Tryz.underlying136
def zfG:=@Tryz.underlying140
def zjj:=@Tryz.underlying142
def zji:=@Tryz.underlying153
def zaW:=@Tryz.underlying156
def zaP:=@Tryz.underlying158
def zJ:=@Tryz.underlying159
def zdG:=@Tryz.underlying161
def zQ:=@Tryz.underlying163
def zaO:=@Tryz.underlying165
def zat:=@Tryz.underlying166
def zef:=@Tryz.underlying177
def zad:=@Tryz.underlying211
def zaJ:=@Tryz.underlying22
def zaY:=@Tryz.underlying24
def zjW:=@Tryz.underlying246
def zed:=@Tryz.underlying25
def zeU:=@Tryz.underlying251
def zjh:=@Tryz.underlying252
def zdS:=@Tryz.underlying26
def zbx:=@Tryz.underlying262
def zlb:=@Tryz.underlying265
def zbn:=@Tryz.underlying267
def zfX:=@Tryz.underlying268
def zbV:=@Tryz.underlying27
def ziv:=@Tryz.underlying275
def ziu:=@Tryz.underlying281
def zjV:=@Tryz.underlying283
def zjg:=@Tryz.underlying288
def zbC:=@Tryz.underlying29
def zjf:=@Tryz.underlying290
def zcW:=@Tryz.underlying3
def zcQ:=@Tryz.underlying30
def zdF:=@Tryz.underlying32
def zjU:=@Tryz.underlying338
def zaA:=@Tryz.underlying36
def zla:=@Tryz.underlying364
def zeD:=@Tryz.underlying38
def zez:=@Tryz.underlying4
def zbt:=@Tryz.underlying43
def zbz:=@Tryz.underlying45
def zbG:=@Tryz.underlying53
def zbs:=@Tryz.underlying55
def zaC:=@Tryz.underlying68
def zbp:=@Tryz.underlying79
def zfr:=@Tryz.underlying84
def zcc:=@Tryz.underlying9
def zco:=@Tryz.underlying95
def zcP:=@Tryz.underlying97
def zkw:=@Tryz.zeroValue125
def zkv:=@Tryz.zeroValue142
def zgN:=@Tryz.zeroValue158
def zfq:=@Tryz.zeroValue163
def ziU:=@Tryz.zeroValue165
def zhP:=@Tryz.zeroValue292
def zhx:=@Tryz.zeroValue3
def zjy:=@Tryz.zeroValue45
def ziM:=@Tryz.zeroValue55
def zjx:=@Tryz.zeroValue68
end Go.Pk
