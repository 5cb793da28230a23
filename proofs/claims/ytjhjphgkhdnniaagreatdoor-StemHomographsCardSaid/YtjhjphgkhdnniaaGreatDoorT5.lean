/- A PART OF THE PROOF: contracts of functions, each walked once (much of it printed by a program of the author's own). -/
import Derived.Test.YtjhjphgkhdnniaaGreatDoorT1
import Derived.Test.YtjhjphgkhdnniaaGreatDoorT2
import Derived.Test.YtjhjphgkhdnniaaGreatDoorT0
import Derived.Test.YtjhjphgkhdnniaaGreatDoorT4
import Derived.Test.YtjhjphgkhdnniaaGreatDoorProg
set_option linter.unusedSimpArgs false
set_option linter.unusedVariables false
set_option maxRecDepth 4000
namespace Go.Pk
open Go Go.RowKit Go.Proofs
theorem _root_.Go.Proofs.Tryz.mixed : Tryz.prog.follows .mixedOrders = true := by kernel_rfl
theorem _root_.Go.Proofs.Tryz.info3 : Tryz.prog.info? 3 = some Tryz.t3 := by kernel_rfl
theorem _root_.Go.Proofs.Tryz.info9 : Tryz.prog.info? 9 = some Tryz.t9 := by kernel_rfl
theorem _root_.Go.Proofs.Tryz.info32 : Tryz.prog.info? 32 = some Tryz.t32 := by kernel_rfl
theorem _root_.Go.Proofs.Tryz.info42 : Tryz.prog.info? 42 = some Tryz.t42 := by kernel_rfl
theorem _root_.Go.Proofs.Tryz.info61 : Tryz.prog.info? 61 = some Tryz.t61 := by kernel_rfl
theorem _root_.Go.Proofs.Tryz.info89 : Tryz.prog.info? 89 = some Tryz.t89 := by kernel_rfl
theorem _root_.Go.Proofs.Tryz.info109 : Tryz.prog.info? 109 = some Tryz.t109 := by kernel_rfl
theorem _root_.Go.Proofs.Tryz.info115 : Tryz.prog.info? 115 = some Tryz.t115 := by kernel_rfl
theorem _root_.Go.Proofs.Tryz.info121 : Tryz.prog.info? 121 = some Tryz.t121 := by kernel_rfl
theorem _root_.Go.Proofs.Tryz.eq_Place (x y : Place) (w : World) : (binOp .eql 42 (.agg [.int .i64 x.chapter, .int .i64 x.line, .int .i64 x.word].toArray) (.agg [.int .i64 y.chapter, .int .i64 y.line, .int .i64 y.word].toArray)).run Tryz.prog w = .ok (.bool (decide (x = y))) w := by
 rcases x with ⟨achapter, aline, aword⟩
 rcases y with ⟨bchapter, bline, bword⟩
 rw [run_eql_struct];simp [go_sem, zx, zgi]
 repeat' split
 all_goals simp_all
theorem _root_.Go.Proofs.Tryz.eq_Head (x y : Head) (w : World) : (binOp .eql 44 (.agg [zx x.stem, .int .u8 x.mark].toArray) (.agg [zx y.stem, .int .u8 y.mark].toArray)).run Tryz.prog w = .ok (.bool (decide (x = y))) w := by
 rcases x with ⟨astem, amark⟩
 rcases y with ⟨bstem, bmark⟩
 rw [run_eql_struct];simp [go_sem, zx, zgi]
 repeat' split
 all_goals simp_all
theorem _root_.Go.Proofs.Tryz.eq_Decision (x y : Decision) (w : World) : (binOp .eql 61 (.agg [.int .i64 x.number, .int .u8 x.kind, zx x.form, .int .i64 x.at_.chapter, .int .i64 x.at_.line, .int .i64 x.at_.word, zx x.to.stem, .int .u8 x.to.mark, .int .i64 x.of_].toArray) (.agg [.int .i64 y.number, .int .u8 y.kind, zx y.form, .int .i64 y.at_.chapter, .int .i64 y.at_.line, .int .i64 y.at_.word, zx y.to.stem, .int .u8 y.to.mark, .int .i64 y.of_].toArray)).run Tryz.prog w = .ok (.bool (decide (x = y))) w := by
 rcases x with ⟨anumber, akind, aform, ⟨aat_chapter, aat_line, aat_word⟩, ⟨atostem, atomark⟩, aof_⟩
 rcases y with ⟨bnumber, bkind, bform, ⟨bat_chapter, bat_line, bat_word⟩, ⟨btostem, btomark⟩, bof_⟩
 rw [run_eql_struct];simp [go_sem, zx, zgi]
 repeat' split
 all_goals simp_all
theorem _root_.Go.Proofs.Tryz.eq_Entry (x y : Entry) (w : World) : (binOp .eql 89 (.agg [.int .i64 x.at_.chapter, .int .i64 x.at_.line, .int .i64 x.at_.word, zx x.word, zx x.head.stem, .int .u8 x.head.mark].toArray) (.agg [.int .i64 y.at_.chapter, .int .i64 y.at_.line, .int .i64 y.at_.word, zx y.word, zx y.head.stem, .int .u8 y.head.mark].toArray)).run Tryz.prog w = .ok (.bool (decide (x = y))) w := by
 rcases x with ⟨⟨aat_chapter, aat_line, aat_word⟩, aword, ⟨aheadstem, aheadmark⟩⟩
 rcases y with ⟨⟨bat_chapter, bat_line, bat_word⟩, bword, ⟨bheadstem, bheadmark⟩⟩
 rw [run_eql_struct];simp [go_sem, zx, zgi]
 repeat' split
 all_goals simp_all
theorem zgK : type_of% @Tryz.call14 := @Tryz.call14
theorem zgJ : type_of% @Tryz.call19 := @Tryz.call19
theorem zfW : type_of% @Tryz.call20 := @Tryz.call20
theorem zhu : type_of% @Tryz.call27 := @Tryz.call27
theorem zdM : type_of% @Tryz.call74 := @Tryz.call74
theorem zht : type_of% @Tryz.call86 := @Tryz.call86
theorem zfg : type_of% @Tryz.eqGuardType42 := @Tryz.eqGuardType42
theorem zep : type_of% @Tryz.eqGuardType44 := @Tryz.eqGuardType44
theorem zff : type_of% @Tryz.eqGuardType61 := @Tryz.eqGuardType61
theorem zbJ : type_of% @Tryz.isAgg107 := @Tryz.isAgg107
theorem zfD : type_of% @Tryz.isAgg109 := @Tryz.isAgg109
theorem zgf : type_of% @Tryz.isAgg115 := @Tryz.isAgg115
theorem zfC : type_of% @Tryz.isAgg210 := @Tryz.isAgg210
theorem zbD : type_of% @Tryz.isAgg22 := @Tryz.isAgg22
theorem zaw : type_of% @Tryz.isAgg24 := @Tryz.isAgg24
theorem zeK : type_of% @Tryz.isAgg25 := @Tryz.isAgg25
theorem zcP : type_of% @Tryz.isAgg26 := @Tryz.isAgg26
theorem zbb : type_of% @Tryz.isAgg28 := @Tryz.isAgg28
theorem zU : type_of% @Tryz.isAgg3 := @Tryz.isAgg3
theorem zdh : type_of% @Tryz.isAgg32 := @Tryz.isAgg32
theorem zbR : type_of% @Tryz.isAgg4 := @Tryz.isAgg4
theorem zap : type_of% @Tryz.isAgg42 := @Tryz.isAgg42
theorem zbC : type_of% @Tryz.isAgg44 := @Tryz.isAgg44
theorem zbp : type_of% @Tryz.isAgg5 := @Tryz.isAgg5
theorem zfK : type_of% @Tryz.isAgg53 := @Tryz.isAgg53
theorem zaP : type_of% @Tryz.isAgg61 := @Tryz.isAgg61
theorem zeJ : type_of% @Tryz.isAgg89 := @Tryz.isAgg89
theorem zau : type_of% @Tryz.isAgg9 := @Tryz.isAgg9
theorem zbY : type_of% @Tryz.results100 := @Tryz.results100
theorem zfJ : type_of% @Tryz.results168 := @Tryz.results168
theorem zfB : type_of% @Tryz.results34 := @Tryz.results34
theorem zgs : type_of% @Tryz.results45 := @Tryz.results45
theorem zfA : type_of% @Tryz.results54 := @Tryz.results54
theorem zgr : type_of% @Tryz.results61 := @Tryz.results61
theorem zgq : type_of% @Tryz.results66 := @Tryz.results66
theorem zfz : type_of% @Tryz.results70 := @Tryz.results70
theorem zck : type_of% @Tryz.results82 := @Tryz.results82
theorem zcv : type_of% @Tryz.results97 := @Tryz.results97
theorem zbj : type_of% @Tryz.sizeOf107 := @Tryz.sizeOf107
theorem zaU : type_of% @Tryz.sizeOf109 := @Tryz.sizeOf109
theorem zca : type_of% @Tryz.sizeOf115 := @Tryz.sizeOf115
theorem zdT : type_of% @Tryz.sizeOf121 := @Tryz.sizeOf121
theorem zdG : type_of% @Tryz.sizeOf160 := @Tryz.sizeOf160
theorem zeS : type_of% @Tryz.sizeOf210 := @Tryz.sizeOf210
theorem zbZ : type_of% @Tryz.sizeOf212 := @Tryz.sizeOf212
theorem zbh : type_of% @Tryz.sizeOf22 := @Tryz.sizeOf22
theorem zS : type_of% @Tryz.sizeOf24 := @Tryz.sizeOf24
theorem zej : type_of% @Tryz.sizeOf25 := @Tryz.sizeOf25
theorem zbv : type_of% @Tryz.sizeOf26 := @Tryz.sizeOf26
theorem zaC : type_of% @Tryz.sizeOf28 := @Tryz.sizeOf28
theorem zL : type_of% @Tryz.sizeOf3 := @Tryz.sizeOf3
theorem zcV : type_of% @Tryz.sizeOf32 := @Tryz.sizeOf32
theorem zbw : type_of% @Tryz.sizeOf4 := @Tryz.sizeOf4
theorem zz : type_of% @Tryz.sizeOf42 := @Tryz.sizeOf42
theorem zai : type_of% @Tryz.sizeOf44 := @Tryz.sizeOf44
theorem zbc : type_of% @Tryz.sizeOf5 := @Tryz.sizeOf5
theorem zfb : type_of% @Tryz.sizeOf53 := @Tryz.sizeOf53
theorem zK : type_of% @Tryz.sizeOf61 := @Tryz.sizeOf61
theorem zby : type_of% @Tryz.sizeOf89 := @Tryz.sizeOf89
theorem zY : type_of% @Tryz.sizeOf9 := @Tryz.sizeOf9
theorem zas : type_of% @Tryz.underlying107 := @Tryz.underlying107
theorem zav : type_of% @Tryz.underlying109 := @Tryz.underlying109
theorem zar : type_of% @Tryz.underlying115 := @Tryz.underlying115
theorem zbt : type_of% @Tryz.underlying121 := @Tryz.underlying121
theorem zfe : type_of% @Tryz.underlying127 := @Tryz.underlying127
theorem zdn : type_of% @Tryz.underlying129 := @Tryz.underlying129
theorem zeo : type_of% @Tryz.underlying142 := @Tryz.underlying142
theorem zbA : type_of% @Tryz.underlying160 := @Tryz.underlying160
theorem zdY : type_of% @Tryz.underlying161 := @Tryz.underlying161
theorem zcX : type_of% @Tryz.underlying210 := @Tryz.underlying210
theorem zR : type_of% @Tryz.underlying212 := @Tryz.underlying212
theorem zbU : type_of% @Tryz.underlying213 := @Tryz.underlying213
theorem zao : type_of% @Tryz.underlying22 := @Tryz.underlying22
theorem zaJ : type_of% @Tryz.underlying24 := @Tryz.underlying24
theorem zbE : type_of% @Tryz.underlying25 := @Tryz.underlying25
theorem zac : type_of% @Tryz.underlying26 := @Tryz.underlying26
theorem zay : type_of% @Tryz.underlying28 := @Tryz.underlying28
theorem zbo : type_of% @Tryz.underlying3 := @Tryz.underlying3
theorem zr : type_of% @Tryz.underlying32 := @Tryz.underlying32
theorem zaZ : type_of% @Tryz.underlying37 := @Tryz.underlying37
theorem zal : type_of% @Tryz.underlying4 := @Tryz.underlying4
theorem zah : type_of% @Tryz.underlying42 := @Tryz.underlying42
theorem zdD : type_of% @Tryz.underlying44 := @Tryz.underlying44
theorem zbM : type_of% @Tryz.underlying53 := @Tryz.underlying53
theorem zcU : type_of% @Tryz.underlying55 := @Tryz.underlying55
theorem zo : type_of% @Tryz.underlying61 := @Tryz.underlying61
theorem zaa : type_of% @Tryz.underlying68 := @Tryz.underlying68
theorem zaW : type_of% @Tryz.underlying86 := @Tryz.underlying86
theorem zdj : type_of% @Tryz.underlying89 := @Tryz.underlying89
theorem zaz : type_of% @Tryz.underlying9 := @Tryz.underlying9
theorem zdS : type_of% @Tryz.zeroValue109 := @Tryz.zeroValue109
theorem zeI : type_of% @Tryz.zeroValue115 := @Tryz.zeroValue115
theorem zed : type_of% @Tryz.zeroValue28 := @Tryz.zeroValue28
theorem zdO : type_of% @Tryz.zeroValue42 := @Tryz.zeroValue42
theorem zdv : type_of% @Tryz.zeroValue44 := @Tryz.zeroValue44
theorem zbn : type_of% @Tryz.zeroValue61 := @Tryz.zeroValue61
end Go.Pk
