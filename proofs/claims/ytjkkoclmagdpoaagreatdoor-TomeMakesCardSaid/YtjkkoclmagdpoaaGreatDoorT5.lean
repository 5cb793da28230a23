/- A PART OF THE PROOF: contracts of functions, each walked once (much of it printed by a program of the author's own). -/
import Derived.Test.YtjkkoclmagdpoaaGreatDoorT1
import Derived.Test.YtjkkoclmagdpoaaGreatDoorT2
import Derived.Test.YtjkkoclmagdpoaaGreatDoorT0
import Derived.Test.YtjkkoclmagdpoaaGreatDoorT4
import Derived.Test.YtjkkoclmagdpoaaGreatDoorProg
set_option linter.unusedSimpArgs false
set_option linter.unusedVariables false
set_option maxRecDepth 4000
namespace Go.Pk
open Go Go.RowKit Go.Proofs
theorem _root_.Go.Proofs.Tryz.mixed:Tryz.prog.follows .mixedOrders=true:=by kernel_rfl
theorem _root_.Go.Proofs.Tryz.info3:Tryz.prog.info? 3=some Tryz.t3:=by kernel_rfl
theorem _root_.Go.Proofs.Tryz.info9:Tryz.prog.info? 9=some Tryz.t9:=by kernel_rfl
theorem _root_.Go.Proofs.Tryz.info32:Tryz.prog.info? 32=some Tryz.t32:=by kernel_rfl
theorem _root_.Go.Proofs.Tryz.info38:Tryz.prog.info? 38=some Tryz.t38:=by kernel_rfl
theorem _root_.Go.Proofs.Tryz.info46:Tryz.prog.info? 46=some Tryz.t46:=by kernel_rfl
theorem _root_.Go.Proofs.Tryz.info55:Tryz.prog.info? 55=some Tryz.t55:=by kernel_rfl
theorem _root_.Go.Proofs.Tryz.info68:Tryz.prog.info? 68=some Tryz.t68:=by kernel_rfl
theorem _root_.Go.Proofs.Tryz.info97:Tryz.prog.info? 97=some Tryz.t97:=by kernel_rfl
theorem _root_.Go.Proofs.Tryz.info125:Tryz.prog.info? 125=some Tryz.t125:=by kernel_rfl
theorem _root_.Go.Proofs.Tryz.info140:Tryz.prog.info? 140=some Tryz.t140:=by kernel_rfl
theorem _root_.Go.Proofs.Tryz.info158:Tryz.prog.info? 158=some Tryz.t158:=by kernel_rfl
theorem _root_.Go.Proofs.Tryz.info159:Tryz.prog.info? 159=some Tryz.t159:=by kernel_rfl
theorem _root_.Go.Proofs.Tryz.info161:Tryz.prog.info? 161=some Tryz.t161:=by kernel_rfl
theorem _root_.Go.Proofs.Tryz.info163:Tryz.prog.info? 163=some Tryz.t163:=by kernel_rfl
theorem _root_.Go.Proofs.Tryz.info165:Tryz.prog.info? 165=some Tryz.t165:=by kernel_rfl
theorem _root_.Go.Proofs.Tryz.info181:Tryz.prog.info? 181=some Tryz.t181:=by kernel_rfl
theorem _root_.Go.Proofs.Tryz.info211:Tryz.prog.info? 211=some Tryz.t211:=by kernel_rfl
theorem _root_.Go.Proofs.Tryz.info230:Tryz.prog.info? 230=some Tryz.t230:=by kernel_rfl
theorem _root_.Go.Proofs.Tryz.info281:Tryz.prog.info? 281=some Tryz.t281:=by kernel_rfl
theorem _root_.Go.Proofs.Tryz.eq_Cut (x y:Cut) (w:World):(binOp .eql 34 (.agg [.int .i64 x.width,.int .u8 x.side].toArray) (.agg [.int .i64 y.width,.int .u8 y.side].toArray)).run Tryz.prog w=.ok (.bool (decide (x=y))) w:=by
 rcases x with ⟨awidth,aside⟩
 rcases y with ⟨bwidth,bside⟩
 rw[run_eql_struct];simp[go_sem,zae,zhc]
 repeat' split
 all_goals simp_all
theorem _root_.Go.Proofs.Tryz.eq_Head (x y:Head) (w:World):(binOp .eql 38 (.agg [zae x.stem,.int .u8 x.mark].toArray) (.agg [zae y.stem,.int .u8 y.mark].toArray)).run Tryz.prog w=.ok (.bool (decide (x=y))) w:=by
 rcases x with ⟨astem,amark⟩
 rcases y with ⟨bstem,bmark⟩
 rw[run_eql_struct];simp[go_sem,zae,zhc]
 repeat' split
 all_goals simp_all
theorem _root_.Go.Proofs.Tryz.eq_Place (x y:Place) (w:World):(binOp .eql 68 (.agg [.int .i64 x.chapter,.int .i64 x.line,.int .i64 x.word].toArray) (.agg [.int .i64 y.chapter,.int .i64 y.line,.int .i64 y.word].toArray)).run Tryz.prog w=.ok (.bool (decide (x=y))) w:=by
 rcases x with ⟨achapter,aline,aword⟩
 rcases y with ⟨bchapter,bline,bword⟩
 rw[run_eql_struct];simp[go_sem,zae,zhc]
 repeat' split
 all_goals simp_all
theorem _root_.Go.Proofs.Tryz.eq_Row (x y:Row) (w:World):(binOp .eql 140 (.agg [.int .i64 x.at_.chapter,.int .i64 x.at_.line,.int .i64 x.at_.word,.int .i64 x.ref.chapter,.int .i64 x.ref.line,.int .i64 x.ref.word,.int .u8 x.sure].toArray) (.agg [.int .i64 y.at_.chapter,.int .i64 y.at_.line,.int .i64 y.at_.word,.int .i64 y.ref.chapter,.int .i64 y.ref.line,.int .i64 y.ref.word,.int .u8 y.sure].toArray)).run Tryz.prog w=.ok (.bool (decide (x=y))) w:=by
 rcases x with ⟨⟨aat_chapter,aat_line,aat_word⟩,⟨arefchapter,arefline,arefword⟩,asure⟩
 rcases y with ⟨⟨bat_chapter,bat_line,bat_word⟩,⟨brefchapter,brefline,brefword⟩,bsure⟩
 rw[run_eql_struct];simp[go_sem,zae,zhc]
 repeat' split
 all_goals simp_all
theorem _root_.Go.Proofs.Tryz.eq_Rule (x y:Rule) (w:World):(binOp .eql 161 (.agg [zae x.cut,zae x.put,.int .i64 x.least].toArray) (.agg [zae y.cut,zae y.put,.int .i64 y.least].toArray)).run Tryz.prog w=.ok (.bool (decide (x=y))) w:=by
 rcases x with ⟨acut,aput,aleast⟩
 rcases y with ⟨bcut,bput,bleast⟩
 rw[run_eql_struct];simp[go_sem,zae,zhc]
 repeat' split
 all_goals simp_all
theorem _root_.Go.Proofs.Tryz.eq_Decision (x y:Decision) (w:World):(binOp .eql 163 (.agg [.int .i64 x.number,.int .u8 x.kind,zae x.form,.int .i64 x.at_.chapter,.int .i64 x.at_.line,.int .i64 x.at_.word,zae x.to.stem,.int .u8 x.to.mark,.int .i64 x.of_].toArray) (.agg [.int .i64 y.number,.int .u8 y.kind,zae y.form,.int .i64 y.at_.chapter,.int .i64 y.at_.line,.int .i64 y.at_.word,zae y.to.stem,.int .u8 y.to.mark,.int .i64 y.of_].toArray)).run Tryz.prog w=.ok (.bool (decide (x=y))) w:=by
 rcases x with ⟨anumber,akind,aform,⟨aat_chapter,aat_line,aat_word⟩,⟨atostem,atomark⟩,aof_⟩
 rcases y with ⟨bnumber,bkind,bform,⟨bat_chapter,bat_line,bat_word⟩,⟨btostem,btomark⟩,bof_⟩
 rw[run_eql_struct];simp[go_sem,zae,zhc]
 repeat' split
 all_goals simp_all
theorem _root_.Go.Proofs.Tryz.eq_Reading (x y:Reading) (w:World):(binOp .eql 165 (.agg [.int .i64 x.at_.chapter,.int .i64 x.at_.line,.int .i64 x.at_.word,.int .u8 x.kind,zae x.word].toArray) (.agg [.int .i64 y.at_.chapter,.int .i64 y.at_.line,.int .i64 y.at_.word,.int .u8 y.kind,zae y.word].toArray)).run Tryz.prog w=.ok (.bool (decide (x=y))) w:=by
 rcases x with ⟨⟨aat_chapter,aat_line,aat_word⟩,akind,aword⟩
 rcases y with ⟨⟨bat_chapter,bat_line,bat_word⟩,bkind,bword⟩
 rw[run_eql_struct];simp[go_sem,zae,zhc]
 repeat' split
 all_goals simp_all
theorem _root_.Go.Proofs.Tryz.eq_Stretch (x y:Stretch) (w:World):(binOp .eql 211 (.agg [.int .i64 x.chapter,.int .i64 x.from_,.int .i64 x.to,.int .i64 x.as_,.int .i64 x.first].toArray) (.agg [.int .i64 y.chapter,.int .i64 y.from_,.int .i64 y.to,.int .i64 y.as_,.int .i64 y.first].toArray)).run Tryz.prog w=.ok (.bool (decide (x=y))) w:=by
 rcases x with ⟨achapter,afrom_,ato,aas_,afirst⟩
 rcases y with ⟨bchapter,bfrom_,bto,bas_,bfirst⟩
 rw[run_eql_struct];simp[go_sem,zae,zhc]
 repeat' split
 all_goals simp_all
theorem zgo:type_of% @Tryz.call117:=@Tryz.call117
theorem zeP:type_of% @Tryz.call142:=@Tryz.call142
theorem zkf:type_of% @Tryz.call222:=@Tryz.call222
theorem zgY:type_of% @Tryz.eqGuardType163:=@Tryz.eqGuardType163
theorem zeY:type_of% @Tryz.eqGuardType38:=@Tryz.eqGuardType38
theorem zeX:type_of% @Tryz.eqGuardType68:=@Tryz.eqGuardType68
theorem zgx:type_of% @Tryz.isAgg138:=@Tryz.isAgg138
theorem zij:type_of% @Tryz.isAgg140:=@Tryz.isAgg140
theorem zbS:type_of% @Tryz.isAgg156:=@Tryz.isAgg156
theorem zgw:type_of% @Tryz.isAgg158:=@Tryz.isAgg158
theorem zdx:type_of% @Tryz.isAgg159:=@Tryz.isAgg159
theorem zjd:type_of% @Tryz.isAgg161:=@Tryz.isAgg161
theorem zbB:type_of% @Tryz.isAgg163:=@Tryz.isAgg163
theorem zfc:type_of% @Tryz.isAgg165:=@Tryz.isAgg165
theorem zjc:type_of% @Tryz.isAgg181:=@Tryz.isAgg181
theorem zdZ:type_of% @Tryz.isAgg211:=@Tryz.isAgg211
theorem zbI:type_of% @Tryz.isAgg22:=@Tryz.isAgg22
theorem zaG:type_of% @Tryz.isAgg24:=@Tryz.isAgg24
theorem zeF:type_of% @Tryz.isAgg25:=@Tryz.isAgg25
theorem zeO:type_of% @Tryz.isAgg26:=@Tryz.isAgg26
theorem zii:type_of% @Tryz.isAgg265:=@Tryz.isAgg265
theorem zei:type_of% @Tryz.isAgg27:=@Tryz.isAgg27
theorem zjb:type_of% @Tryz.isAgg288:=@Tryz.isAgg288
theorem zcG:type_of% @Tryz.isAgg29:=@Tryz.isAgg29
theorem zhp:type_of% @Tryz.isAgg292:=@Tryz.isAgg292
theorem zO:type_of% @Tryz.isAgg3:=@Tryz.isAgg3
theorem zeN:type_of% @Tryz.isAgg30:=@Tryz.isAgg30
theorem zco:type_of% @Tryz.isAgg32:=@Tryz.isAgg32
theorem zdi:type_of% @Tryz.isAgg36:=@Tryz.isAgg36
theorem zbr:type_of% @Tryz.isAgg38:=@Tryz.isAgg38
theorem zdn:type_of% @Tryz.isAgg4:=@Tryz.isAgg4
theorem zhB:type_of% @Tryz.isAgg43:=@Tryz.isAgg43
theorem zeE:type_of% @Tryz.isAgg45:=@Tryz.isAgg45
theorem zbO:type_of% @Tryz.isAgg5:=@Tryz.isAgg5
theorem ziy:type_of% @Tryz.isAgg53:=@Tryz.isAgg53
theorem zeM:type_of% @Tryz.isAgg55:=@Tryz.isAgg55
theorem zaE:type_of% @Tryz.isAgg68:=@Tryz.isAgg68
theorem zaK:type_of% @Tryz.isAgg9:=@Tryz.isAgg9
theorem zdh:type_of% @Tryz.isAgg95:=@Tryz.isAgg95
theorem zgG:type_of% @Tryz.isAgg97:=@Tryz.isAgg97
theorem zdD:type_of% @Tryz.results104:=@Tryz.results104
theorem zix:type_of% @Tryz.results107:=@Tryz.results107
theorem zho:type_of% @Tryz.results109:=@Tryz.results109
theorem zhn:type_of% @Tryz.results110:=@Tryz.results110
theorem ziw:type_of% @Tryz.results125:=@Tryz.results125
theorem zdq:type_of% @Tryz.results162:=@Tryz.results162
theorem zgf:type_of% @Tryz.results164:=@Tryz.results164
theorem zgO:type_of% @Tryz.results181:=@Tryz.results181
theorem zih:type_of% @Tryz.results19:=@Tryz.results19
theorem ziv:type_of% @Tryz.results193:=@Tryz.results193
theorem zfY:type_of% @Tryz.results3:=@Tryz.results3
theorem zig:type_of% @Tryz.results36:=@Tryz.results36
theorem zjr:type_of% @Tryz.results51:=@Tryz.results51
theorem zdL:type_of% @Tryz.results93:=@Tryz.results93
theorem zif:type_of% @Tryz.results97:=@Tryz.results97
theorem zhf:type_of% @Tryz.sizeOf123:=@Tryz.sizeOf123
theorem zhe:type_of% @Tryz.sizeOf125:=@Tryz.sizeOf125
theorem zcK:type_of% @Tryz.sizeOf138:=@Tryz.sizeOf138
theorem zex:type_of% @Tryz.sizeOf140:=@Tryz.sizeOf140
theorem zbu:type_of% @Tryz.sizeOf156:=@Tryz.sizeOf156
theorem zbb:type_of% @Tryz.sizeOf158:=@Tryz.sizeOf158
theorem zdd:type_of% @Tryz.sizeOf159:=@Tryz.sizeOf159
theorem zdX:type_of% @Tryz.sizeOf161:=@Tryz.sizeOf161
theorem zas:type_of% @Tryz.sizeOf163:=@Tryz.sizeOf163
theorem zby:type_of% @Tryz.sizeOf165:=@Tryz.sizeOf165
theorem zdu:type_of% @Tryz.sizeOf181:=@Tryz.sizeOf181
theorem zbV:type_of% @Tryz.sizeOf211:=@Tryz.sizeOf211
theorem zbi:type_of% @Tryz.sizeOf22:=@Tryz.sizeOf22
theorem zab:type_of% @Tryz.sizeOf24:=@Tryz.sizeOf24
theorem zel:type_of% @Tryz.sizeOf25:=@Tryz.sizeOf25
theorem zfz:type_of% @Tryz.sizeOf251:=@Tryz.sizeOf251
theorem zdR:type_of% @Tryz.sizeOf26:=@Tryz.sizeOf26
theorem zhd:type_of% @Tryz.sizeOf265:=@Tryz.sizeOf265
theorem zdt:type_of% @Tryz.sizeOf267:=@Tryz.sizeOf267
theorem zdp:type_of% @Tryz.sizeOf27:=@Tryz.sizeOf27
theorem zfP:type_of% @Tryz.sizeOf281:=@Tryz.sizeOf281
theorem zie:type_of% @Tryz.sizeOf288:=@Tryz.sizeOf288
theorem zbv:type_of% @Tryz.sizeOf29:=@Tryz.sizeOf29
theorem zew:type_of% @Tryz.sizeOf292:=@Tryz.sizeOf292
theorem zG:type_of% @Tryz.sizeOf3:=@Tryz.sizeOf3
theorem zdQ:type_of% @Tryz.sizeOf30:=@Tryz.sizeOf30
theorem zbh:type_of% @Tryz.sizeOf32:=@Tryz.sizeOf32
theorem zjq:type_of% @Tryz.sizeOf338:=@Tryz.sizeOf338
theorem zgv:type_of% @Tryz.sizeOf34:=@Tryz.sizeOf34
theorem zbR:type_of% @Tryz.sizeOf36:=@Tryz.sizeOf36
theorem zac:type_of% @Tryz.sizeOf38:=@Tryz.sizeOf38
theorem zcR:type_of% @Tryz.sizeOf4:=@Tryz.sizeOf4
theorem zfs:type_of% @Tryz.sizeOf43:=@Tryz.sizeOf43
theorem zcj:type_of% @Tryz.sizeOf45:=@Tryz.sizeOf45
theorem zbn:type_of% @Tryz.sizeOf5:=@Tryz.sizeOf5
theorem zfF:type_of% @Tryz.sizeOf53:=@Tryz.sizeOf53
theorem zcd:type_of% @Tryz.sizeOf55:=@Tryz.sizeOf55
theorem zP:type_of% @Tryz.sizeOf68:=@Tryz.sizeOf68
theorem zaj:type_of% @Tryz.sizeOf9:=@Tryz.sizeOf9
theorem zcQ:type_of% @Tryz.sizeOf95:=@Tryz.sizeOf95
theorem zdP:type_of% @Tryz.sizeOf97:=@Tryz.sizeOf97
theorem zdB:type_of% @Tryz.underlying109:=@Tryz.underlying109
theorem zeW:type_of% @Tryz.underlying123:=@Tryz.underlying123
theorem zfy:type_of% @Tryz.underlying125:=@Tryz.underlying125
theorem zaJ:type_of% @Tryz.underlying156:=@Tryz.underlying156
theorem zaz:type_of% @Tryz.underlying158:=@Tryz.underlying158
theorem zC:type_of% @Tryz.underlying159:=@Tryz.underlying159
theorem zcg:type_of% @Tryz.underlying161:=@Tryz.underlying161
theorem zI:type_of% @Tryz.underlying163:=@Tryz.underlying163
theorem zai:type_of% @Tryz.underlying165:=@Tryz.underlying165
theorem zak:type_of% @Tryz.underlying166:=@Tryz.underlying166
theorem zcx:type_of% @Tryz.underlying177:=@Tryz.underlying177
theorem zaa:type_of% @Tryz.underlying211:=@Tryz.underlying211
theorem zav:type_of% @Tryz.underlying22:=@Tryz.underlying22
theorem zaI:type_of% @Tryz.underlying24:=@Tryz.underlying24
theorem zgF:type_of% @Tryz.underlying246:=@Tryz.underlying246
theorem zcv:type_of% @Tryz.underlying25:=@Tryz.underlying25
theorem zcX:type_of% @Tryz.underlying251:=@Tryz.underlying251
theorem zfX:type_of% @Tryz.underlying252:=@Tryz.underlying252
theorem zcm:type_of% @Tryz.underlying26:=@Tryz.underlying26
theorem zaV:type_of% @Tryz.underlying262:=@Tryz.underlying262
theorem zhw:type_of% @Tryz.underlying265:=@Tryz.underlying265
theorem zaP:type_of% @Tryz.underlying267:=@Tryz.underlying267
theorem zdA:type_of% @Tryz.underlying268:=@Tryz.underlying268
theorem zbg:type_of% @Tryz.underlying27:=@Tryz.underlying27
theorem zfx:type_of% @Tryz.underlying275:=@Tryz.underlying275
theorem zfw:type_of% @Tryz.underlying281:=@Tryz.underlying281
theorem zgE:type_of% @Tryz.underlying283:=@Tryz.underlying283
theorem zfW:type_of% @Tryz.underlying288:=@Tryz.underlying288
theorem zaY:type_of% @Tryz.underlying29:=@Tryz.underlying29
theorem zfV:type_of% @Tryz.underlying290:=@Tryz.underlying290
theorem zcu:type_of% @Tryz.underlying3:=@Tryz.underlying3
theorem zbH:type_of% @Tryz.underlying30:=@Tryz.underlying30
theorem zcf:type_of% @Tryz.underlying32:=@Tryz.underlying32
theorem zgD:type_of% @Tryz.underlying338:=@Tryz.underlying338
theorem zah:type_of% @Tryz.underlying36:=@Tryz.underlying36
theorem zhv:type_of% @Tryz.underlying364:=@Tryz.underlying364
theorem zcU:type_of% @Tryz.underlying38:=@Tryz.underlying38
theorem zcL:type_of% @Tryz.underlying4:=@Tryz.underlying4
theorem zeg:type_of% @Tryz.underlying43:=@Tryz.underlying43
theorem zef:type_of% @Tryz.underlying45:=@Tryz.underlying45
theorem zev:type_of% @Tryz.underlying53:=@Tryz.underlying53
theorem zdC:type_of% @Tryz.underlying55:=@Tryz.underlying55
theorem zal:type_of% @Tryz.underlying68:=@Tryz.underlying68
theorem zbo:type_of% @Tryz.underlying79:=@Tryz.underlying79
theorem zbx:type_of% @Tryz.underlying9:=@Tryz.underlying9
theorem zbf:type_of% @Tryz.underlying95:=@Tryz.underlying95
theorem zbt:type_of% @Tryz.underlying97:=@Tryz.underlying97
theorem zeu:type_of% @Tryz.zeroValue158:=@Tryz.zeroValue158
theorem zdg:type_of% @Tryz.zeroValue163:=@Tryz.zeroValue163
theorem zet:type_of% @Tryz.zeroValue165:=@Tryz.zeroValue165
theorem zeR:type_of% @Tryz.zeroValue292:=@Tryz.zeroValue292
theorem zey:type_of% @Tryz.zeroValue45:=@Tryz.zeroValue45
theorem zfJ:type_of% @Tryz.zeroValue55:=@Tryz.zeroValue55
theorem zgj:type_of% @Tryz.zeroValue68:=@Tryz.zeroValue68
end Go.Pk
