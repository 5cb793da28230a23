/- A PART OF THE PROOF: contracts of functions, each walked once (much of it printed by a program of the author's own). -/
import Derived.Test.YtfpiiheehdedmaaGreatDoorT1
import Derived.Test.YtfpiiheehdedmaaGreatDoorT2
import Derived.Test.YtfpiiheehdedmaaGreatDoorT0
import Derived.Test.YtfpiiheehdedmaaGreatDoorProg
set_option linter.unusedSimpArgs false
set_option linter.unusedVariables false
set_option maxRecDepth 4000
namespace Go.Pk
open Go Go.RowKit Go.Proofs
theorem _root_.Go.Proofs.Tryz.mixed : Tryz.prog.follows .mixedOrders = true := by kernel_rfl
theorem _root_.Go.Proofs.Tryz.info3 : Tryz.prog.info? 3 = some Tryz.t3 := by kernel_rfl
theorem _root_.Go.Proofs.Tryz.info9 : Tryz.prog.info? 9 = some Tryz.t9 := by kernel_rfl
theorem _root_.Go.Proofs.Tryz.info42 : Tryz.prog.info? 42 = some Tryz.t42 := by kernel_rfl
theorem _root_.Go.Proofs.Tryz.info60 : Tryz.prog.info? 60 = some Tryz.t60 := by kernel_rfl
theorem _root_.Go.Proofs.Tryz.info68 : Tryz.prog.info? 68 = some Tryz.t68 := by kernel_rfl
theorem _root_.Go.Proofs.Tryz.info72 : Tryz.prog.info? 72 = some Tryz.t72 := by kernel_rfl
theorem _root_.Go.Proofs.Tryz.info74 : Tryz.prog.info? 74 = some Tryz.t74 := by kernel_rfl
theorem _root_.Go.Proofs.Tryz.info79 : Tryz.prog.info? 79 = some Tryz.t79 := by kernel_rfl
theorem _root_.Go.Proofs.Tryz.info84 : Tryz.prog.info? 84 = some Tryz.t84 := by kernel_rfl
theorem _root_.Go.Proofs.Tryz.info152 : Tryz.prog.info? 152 = some Tryz.t152 := by kernel_rfl
theorem _root_.Go.Proofs.Tryz.info190 : Tryz.prog.info? 190 = some Tryz.t190 := by kernel_rfl
theorem _root_.Go.Proofs.Tryz.eq_Span (x y : Span) (w : World) : (binOp .eql 36 (.agg [.int .i64 x.lo, .int .i64 x.hi].toArray) (.agg [.int .i64 y.lo, .int .i64 y.hi].toArray)).run Tryz.prog w = .ok (.bool (decide (x = y))) w := by
 rcases x with ⟨alo, ahi⟩
 rcases y with ⟨blo, bhi⟩
 rw [run_eql_struct]
 simp [go_sem, strV, zfc]
 repeat' split
 all_goals simp_all
theorem _root_.Go.Proofs.Tryz.eq_Rule (x y : Rule) (w : World) : (binOp .eql 68 (.agg [strV x.cut, strV x.put, .int .i64 x.least].toArray) (.agg [strV y.cut, strV y.put, .int .i64 y.least].toArray)).run Tryz.prog w = .ok (.bool (decide (x = y))) w := by
 rcases x with ⟨acut, aput, aleast⟩
 rcases y with ⟨bcut, bput, bleast⟩
 rw [run_eql_struct]
 simp [go_sem, strV, zfc]
 repeat' split
 all_goals simp_all
theorem _root_.Go.Proofs.Tryz.eq_Place (x y : Place) (w : World) : (binOp .eql 70 (.agg [.int .i64 x.chapter, .int .i64 x.line, .int .i64 x.word].toArray) (.agg [.int .i64 y.chapter, .int .i64 y.line, .int .i64 y.word].toArray)).run Tryz.prog w = .ok (.bool (decide (x = y))) w := by
 rcases x with ⟨achapter, aline, aword⟩
 rcases y with ⟨bchapter, bline, bword⟩
 rw [run_eql_struct]
 simp [go_sem, strV, zfc]
 repeat' split
 all_goals simp_all
theorem _root_.Go.Proofs.Tryz.eq_Head (x y : Head) (w : World) : (binOp .eql 72 (.agg [strV x.stem, .int .u8 x.mark].toArray) (.agg [strV y.stem, .int .u8 y.mark].toArray)).run Tryz.prog w = .ok (.bool (decide (x = y))) w := by
 rcases x with ⟨astem, amark⟩
 rcases y with ⟨bstem, bmark⟩
 rw [run_eql_struct]
 simp [go_sem, strV, zfc]
 repeat' split
 all_goals simp_all
theorem _root_.Go.Proofs.Tryz.eq_Decision (x y : Decision) (w : World) : (binOp .eql 74 (.agg [.int .i64 x.number, .int .u8 x.kind, strV x.form, .int .i64 x.at_.chapter, .int .i64 x.at_.line, .int .i64 x.at_.word, strV x.to.stem, .int .u8 x.to.mark, .int .i64 x.of_].toArray) (.agg [.int .i64 y.number, .int .u8 y.kind, strV y.form, .int .i64 y.at_.chapter, .int .i64 y.at_.line, .int .i64 y.at_.word, strV y.to.stem, .int .u8 y.to.mark, .int .i64 y.of_].toArray)).run Tryz.prog w = .ok (.bool (decide (x = y))) w := by
 rcases x with ⟨anumber, akind, aform, ⟨aat_chapter, aat_line, aat_word⟩, ⟨atostem, atomark⟩, aof_⟩
 rcases y with ⟨bnumber, bkind, bform, ⟨bat_chapter, bat_line, bat_word⟩, ⟨btostem, btomark⟩, bof_⟩
 rw [run_eql_struct]
 simp [go_sem, strV, zfc]
 repeat' split
 all_goals simp_all
theorem zgm : type_of% @Tryz.call153 := @Tryz.call153
theorem zfB : type_of% @Tryz.call164 := @Tryz.call164
theorem zhl : type_of% @Tryz.call21 := @Tryz.call21
theorem zhk : type_of% @Tryz.call37 := @Tryz.call37
theorem zhj : type_of% @Tryz.call54 := @Tryz.call54
theorem zfm : type_of% @Tryz.call55 := @Tryz.call55
theorem zeM : type_of% @Tryz.eqGuardType74 := @Tryz.eqGuardType74
theorem zcm : type_of% @Tryz.isAgg150 := @Tryz.isAgg150
theorem zbW : type_of% @Tryz.isAgg22 := @Tryz.isAgg22
theorem zfl : type_of% @Tryz.isAgg229 := @Tryz.isAgg229
theorem zbk : type_of% @Tryz.isAgg24 := @Tryz.isAgg24
theorem zcZ : type_of% @Tryz.isAgg25 := @Tryz.isAgg25
theorem zcr : type_of% @Tryz.isAgg26 := @Tryz.isAgg26
theorem zbL : type_of% @Tryz.isAgg28 := @Tryz.isAgg28
theorem zby : type_of% @Tryz.isAgg29 := @Tryz.isAgg29
theorem zz : type_of% @Tryz.isAgg3 := @Tryz.isAgg3
theorem zbj : type_of% @Tryz.isAgg30 := @Tryz.isAgg30
theorem zaE : type_of% @Tryz.isAgg32 := @Tryz.isAgg32
theorem zbK : type_of% @Tryz.isAgg4 := @Tryz.isAgg4
theorem zce : type_of% @Tryz.isAgg42 := @Tryz.isAgg42
theorem zbV : type_of% @Tryz.isAgg5 := @Tryz.isAgg5
theorem zee : type_of% @Tryz.isAgg60 := @Tryz.isAgg60
theorem zaQ : type_of% @Tryz.isAgg70 := @Tryz.isAgg70
theorem zbQ : type_of% @Tryz.isAgg72 := @Tryz.isAgg72
theorem zaY : type_of% @Tryz.isAgg74 := @Tryz.isAgg74
theorem zdU : type_of% @Tryz.isAgg79 := @Tryz.isAgg79
theorem zcy : type_of% @Tryz.isAgg82 := @Tryz.isAgg82
theorem zaD : type_of% @Tryz.isAgg9 := @Tryz.isAgg9
theorem zeO : type_of% @Tryz.isAgg91 := @Tryz.isAgg91
theorem zei : type_of% @Tryz.results105 := @Tryz.results105
theorem zfA : type_of% @Tryz.results106 := @Tryz.results106
theorem zfz : type_of% @Tryz.results116 := @Tryz.results116
theorem zeG : type_of% @Tryz.results131 := @Tryz.results131
theorem zcl : type_of% @Tryz.results138 := @Tryz.results138
theorem zfy : type_of% @Tryz.results141 := @Tryz.results141
theorem zfx : type_of% @Tryz.results142 := @Tryz.results142
theorem zey : type_of% @Tryz.results15 := @Tryz.results15
theorem zcc : type_of% @Tryz.results159 := @Tryz.results159
theorem zeF : type_of% @Tryz.results190 := @Tryz.results190
theorem zdR : type_of% @Tryz.results40 := @Tryz.results40
theorem zfk : type_of% @Tryz.results51 := @Tryz.results51
theorem zgl : type_of% @Tryz.results96 := @Tryz.results96
theorem zgk : type_of% @Tryz.sizeOf145 := @Tryz.sizeOf145
theorem zbH : type_of% @Tryz.sizeOf150 := @Tryz.sizeOf150
theorem zbA : type_of% @Tryz.sizeOf152 := @Tryz.sizeOf152
theorem zdQ : type_of% @Tryz.sizeOf162 := @Tryz.sizeOf162
theorem zbx : type_of% @Tryz.sizeOf22 := @Tryz.sizeOf22
theorem zex : type_of% @Tryz.sizeOf229 := @Tryz.sizeOf229
theorem zaA : type_of% @Tryz.sizeOf24 := @Tryz.sizeOf24
theorem zcq : type_of% @Tryz.sizeOf25 := @Tryz.sizeOf25
theorem zcd : type_of% @Tryz.sizeOf256 := @Tryz.sizeOf256
theorem zbN : type_of% @Tryz.sizeOf26 := @Tryz.sizeOf26
theorem zaC : type_of% @Tryz.sizeOf28 := @Tryz.sizeOf28
theorem zbe : type_of% @Tryz.sizeOf29 := @Tryz.sizeOf29
theorem zl : type_of% @Tryz.sizeOf3 := @Tryz.sizeOf3
theorem zaL : type_of% @Tryz.sizeOf30 := @Tryz.sizeOf30
theorem zad : type_of% @Tryz.sizeOf32 := @Tryz.sizeOf32
theorem zdp : type_of% @Tryz.sizeOf36 := @Tryz.sizeOf36
theorem zbh : type_of% @Tryz.sizeOf4 := @Tryz.sizeOf4
theorem zbs : type_of% @Tryz.sizeOf42 := @Tryz.sizeOf42
theorem zbu : type_of% @Tryz.sizeOf5 := @Tryz.sizeOf5
theorem zdK : type_of% @Tryz.sizeOf60 := @Tryz.sizeOf60
theorem zcV : type_of% @Tryz.sizeOf68 := @Tryz.sizeOf68
theorem zW : type_of% @Tryz.sizeOf70 := @Tryz.sizeOf70
theorem zai : type_of% @Tryz.sizeOf72 := @Tryz.sizeOf72
theorem zX : type_of% @Tryz.sizeOf74 := @Tryz.sizeOf74
theorem zaT : type_of% @Tryz.sizeOf79 := @Tryz.sizeOf79
theorem zch : type_of% @Tryz.sizeOf82 := @Tryz.sizeOf82
theorem zbR : type_of% @Tryz.sizeOf84 := @Tryz.sizeOf84
theorem zak : type_of% @Tryz.sizeOf9 := @Tryz.sizeOf9
theorem zeL : type_of% @Tryz.underlying145 := @Tryz.underlying145
theorem zaO : type_of% @Tryz.underlying150 := @Tryz.underlying150
theorem zaJ : type_of% @Tryz.underlying152 := @Tryz.underlying152
theorem zeK : type_of% @Tryz.underlying160 := @Tryz.underlying160
theorem zcS : type_of% @Tryz.underlying162 := @Tryz.underlying162
theorem zed : type_of% @Tryz.underlying163 := @Tryz.underlying163
theorem zdk : type_of% @Tryz.underlying169 := @Tryz.underlying169
theorem zdc : type_of% @Tryz.underlying172 := @Tryz.underlying172
theorem zdJ : type_of% @Tryz.underlying190 := @Tryz.underlying190
theorem zaK : type_of% @Tryz.underlying22 := @Tryz.underlying22
theorem zeJ : type_of% @Tryz.underlying229 := @Tryz.underlying229
theorem zdI : type_of% @Tryz.underlying235 := @Tryz.underlying235
theorem zaP : type_of% @Tryz.underlying24 := @Tryz.underlying24
theorem zbd : type_of% @Tryz.underlying25 := @Tryz.underlying25
theorem zab : type_of% @Tryz.underlying256 := @Tryz.underlying256
theorem zci : type_of% @Tryz.underlying257 := @Tryz.underlying257
theorem zaG : type_of% @Tryz.underlying26 := @Tryz.underlying26
theorem zag : type_of% @Tryz.underlying28 := @Tryz.underlying28
theorem zaq : type_of% @Tryz.underlying29 := @Tryz.underlying29
theorem zbU : type_of% @Tryz.underlying3 := @Tryz.underlying3
theorem zaa : type_of% @Tryz.underlying30 := @Tryz.underlying30
theorem zt : type_of% @Tryz.underlying32 := @Tryz.underlying32
theorem zbv : type_of% @Tryz.underlying4 := @Tryz.underlying4
theorem zg : type_of% @Tryz.underlying42 := @Tryz.underlying42
theorem zV : type_of% @Tryz.underlying60 := @Tryz.underlying60
theorem zbG : type_of% @Tryz.underlying68 := @Tryz.underlying68
theorem zao : type_of% @Tryz.underlying70 := @Tryz.underlying70
theorem zbn : type_of% @Tryz.underlying72 := @Tryz.underlying72
theorem zo : type_of% @Tryz.underlying74 := @Tryz.underlying74
theorem zaz : type_of% @Tryz.underlying79 := @Tryz.underlying79
theorem zaZ : type_of% @Tryz.underlying82 := @Tryz.underlying82
theorem zaF : type_of% @Tryz.underlying84 := @Tryz.underlying84
theorem zaB : type_of% @Tryz.underlying9 := @Tryz.underlying9
theorem zbw : type_of% @Tryz.underlying91 := @Tryz.underlying91
theorem zdP : type_of% @Tryz.zeroValue28 := @Tryz.zeroValue28
theorem zdu : type_of% @Tryz.zeroValue32 := @Tryz.zeroValue32
theorem zfw : type_of% @Tryz.zeroValue4 := @Tryz.zeroValue4
theorem zeN : type_of% @Tryz.zeroValue72 := @Tryz.zeroValue72
theorem zbT : type_of% @Tryz.zeroValue74 := @Tryz.zeroValue74
theorem zdt : type_of% @Tryz.zeroValue79 := @Tryz.zeroValue79
end Go.Pk
