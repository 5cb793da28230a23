/- A PART OF THE PROOF: contracts of functions, each walked once (much of it printed by a program of the author's own). -/
import Derived.Test.YtjdbapoodefncaaGreatDoorT1
import Derived.Test.YtjdbapoodefncaaGreatDoorT3
import Derived.Test.YtjdbapoodefncaaGreatDoorT0
import Derived.Test.YtjdbapoodefncaaGreatDoorT2
import Derived.Test.YtjdbapoodefncaaGreatDoorProg
set_option linter.unusedSimpArgs false
set_option linter.unusedVariables false
set_option maxRecDepth 4000
namespace Go.Pk
open Go Go.RowKit Go.Proofs
theorem _root_.Go.Proofs.Tryz.mixed : Tryz.prog.follows .mixedOrders = true := by kernel_rfl
theorem _root_.Go.Proofs.Tryz.info3 : Tryz.prog.info? 3 = some Tryz.t3 := by kernel_rfl
theorem _root_.Go.Proofs.Tryz.info9 : Tryz.prog.info? 9 = some Tryz.t9 := by kernel_rfl
theorem _root_.Go.Proofs.Tryz.info38 : Tryz.prog.info? 38 = some Tryz.t38 := by kernel_rfl
theorem _root_.Go.Proofs.Tryz.info51 : Tryz.prog.info? 51 = some Tryz.t51 := by kernel_rfl
theorem _root_.Go.Proofs.Tryz.info53 : Tryz.prog.info? 53 = some Tryz.t53 := by kernel_rfl
theorem _root_.Go.Proofs.Tryz.info58 : Tryz.prog.info? 58 = some Tryz.t58 := by kernel_rfl
theorem _root_.Go.Proofs.Tryz.info59 : Tryz.prog.info? 59 = some Tryz.t59 := by kernel_rfl
theorem _root_.Go.Proofs.Tryz.info68 : Tryz.prog.info? 68 = some Tryz.t68 := by kernel_rfl
theorem _root_.Go.Proofs.Tryz.info107 : Tryz.prog.info? 107 = some Tryz.t107 := by kernel_rfl
theorem _root_.Go.Proofs.Tryz.info122 : Tryz.prog.info? 122 = some Tryz.t122 := by kernel_rfl
theorem _root_.Go.Proofs.Tryz.info154 : Tryz.prog.info? 154 = some Tryz.t154 := by kernel_rfl
theorem _root_.Go.Proofs.Tryz.eq_Span (x y : Span) (w : World) : (binOp .eql 43 (.agg [.int .i64 x.lo, .int .i64 x.hi].toArray) (.agg [.int .i64 y.lo, .int .i64 y.hi].toArray)).run Tryz.prog w = .ok (.bool (decide (x = y))) w := by
 rcases x with ⟨alo, ahi⟩
 rcases y with ⟨blo, bhi⟩
 rw [run_eql_struct];simp [go_sem, zK, zfC]
 repeat' split
 all_goals simp_all
theorem _root_.Go.Proofs.Tryz.eq_Place (x y : Place) (w : World) : (binOp .eql 49 (.agg [.int .i64 x.chapter, .int .i64 x.line, .int .i64 x.word].toArray) (.agg [.int .i64 y.chapter, .int .i64 y.line, .int .i64 y.word].toArray)).run Tryz.prog w = .ok (.bool (decide (x = y))) w := by
 rcases x with ⟨achapter, aline, aword⟩
 rcases y with ⟨bchapter, bline, bword⟩
 rw [run_eql_struct];simp [go_sem, zK, zfC]
 repeat' split
 all_goals simp_all
theorem _root_.Go.Proofs.Tryz.eq_Head (x y : Head) (w : World) : (binOp .eql 51 (.agg [zK x.stem, .int .u8 x.mark].toArray) (.agg [zK y.stem, .int .u8 y.mark].toArray)).run Tryz.prog w = .ok (.bool (decide (x = y))) w := by
 rcases x with ⟨astem, amark⟩
 rcases y with ⟨bstem, bmark⟩
 rw [run_eql_struct];simp [go_sem, zK, zfC]
 repeat' split
 all_goals simp_all
theorem _root_.Go.Proofs.Tryz.eq_Decision (x y : Decision) (w : World) : (binOp .eql 53 (.agg [.int .i64 x.number, .int .u8 x.kind, zK x.form, .int .i64 x.at_.chapter, .int .i64 x.at_.line, .int .i64 x.at_.word, zK x.to.stem, .int .u8 x.to.mark, .int .i64 x.of_].toArray) (.agg [.int .i64 y.number, .int .u8 y.kind, zK y.form, .int .i64 y.at_.chapter, .int .i64 y.at_.line, .int .i64 y.at_.word, zK y.to.stem, .int .u8 y.to.mark, .int .i64 y.of_].toArray)).run Tryz.prog w = .ok (.bool (decide (x = y))) w := by
 rcases x with ⟨anumber, akind, aform, ⟨aat_chapter, aat_line, aat_word⟩, ⟨atostem, atomark⟩, aof_⟩
 rcases y with ⟨bnumber, bkind, bform, ⟨bat_chapter, bat_line, bat_word⟩, ⟨btostem, btomark⟩, bof_⟩
 rw [run_eql_struct];simp [go_sem, zK, zfC]
 repeat' split
 all_goals simp_all
theorem _root_.Go.Proofs.Tryz.eq_Rule (x y : Rule) (w : World) : (binOp .eql 122 (.agg [zK x.cut, zK x.put, .int .i64 x.least].toArray) (.agg [zK y.cut, zK y.put, .int .i64 y.least].toArray)).run Tryz.prog w = .ok (.bool (decide (x = y))) w := by
 rcases x with ⟨acut, aput, aleast⟩
 rcases y with ⟨bcut, bput, bleast⟩
 rw [run_eql_struct];simp [go_sem, zK, zfC]
 repeat' split
 all_goals simp_all
theorem zdD : type_of% @Tryz.call12 := @Tryz.call12
theorem zgb : type_of% @Tryz.call125 := @Tryz.call125
theorem zgV : type_of% @Tryz.call181 := @Tryz.call181
theorem zgp : type_of% @Tryz.call19 := @Tryz.call19
theorem zhZ : type_of% @Tryz.call20 := @Tryz.call20
theorem zhY : type_of% @Tryz.call37 := @Tryz.call37
theorem zhX : type_of% @Tryz.call50 := @Tryz.call50
theorem zfQ : type_of% @Tryz.call51 := @Tryz.call51
theorem zfl : type_of% @Tryz.eqGuardType53 := @Tryz.eqGuardType53
theorem zcS : type_of% @Tryz.isAgg105 := @Tryz.isAgg105
theorem zfP : type_of% @Tryz.isAgg229 := @Tryz.isAgg229
theorem zcI : type_of% @Tryz.isAgg26 := @Tryz.isAgg26
theorem zbk : type_of% @Tryz.isAgg28 := @Tryz.isAgg28
theorem zds : type_of% @Tryz.isAgg29 := @Tryz.isAgg29
theorem zG : type_of% @Tryz.isAgg3 := @Tryz.isAgg3
theorem zcv : type_of% @Tryz.isAgg30 := @Tryz.isAgg30
theorem zbQ : type_of% @Tryz.isAgg32 := @Tryz.isAgg32
theorem zbB : type_of% @Tryz.isAgg33 := @Tryz.isAgg33
theorem zbY : type_of% @Tryz.isAgg34 := @Tryz.isAgg34
theorem zbd : type_of% @Tryz.isAgg36 := @Tryz.isAgg36
theorem zcq : type_of% @Tryz.isAgg38 := @Tryz.isAgg38
theorem zbP : type_of% @Tryz.isAgg4 := @Tryz.isAgg4
theorem zaP : type_of% @Tryz.isAgg49 := @Tryz.isAgg49
theorem zbX : type_of% @Tryz.isAgg5 := @Tryz.isAgg5
theorem zbE : type_of% @Tryz.isAgg51 := @Tryz.isAgg51
theorem zaT : type_of% @Tryz.isAgg53 := @Tryz.isAgg53
theorem zeL : type_of% @Tryz.isAgg59 := @Tryz.isAgg59
theorem zcC : type_of% @Tryz.isAgg66 := @Tryz.isAgg66
theorem zfn : type_of% @Tryz.isAgg76 := @Tryz.isAgg76
theorem zav : type_of% @Tryz.isAgg9 := @Tryz.isAgg9
theorem zga : type_of% @Tryz.results101 := @Tryz.results101
theorem zfd : type_of% @Tryz.results106 := @Tryz.results106
theorem zcs : type_of% @Tryz.results113 := @Tryz.results113
theorem zfZ : type_of% @Tryz.results116 := @Tryz.results116
theorem zfY : type_of% @Tryz.results117 := @Tryz.results117
theorem zev : type_of% @Tryz.results120 := @Tryz.results120
theorem zfc : type_of% @Tryz.results200 := @Tryz.results200
theorem zec : type_of% @Tryz.results25 := @Tryz.results25
theorem zgU : type_of% @Tryz.results36 := @Tryz.results36
theorem zgT : type_of% @Tryz.results38 := @Tryz.results38
theorem zfO : type_of% @Tryz.results39 := @Tryz.results39
theorem zfN : type_of% @Tryz.results6 := @Tryz.results6
theorem zgS : type_of% @Tryz.results71 := @Tryz.results71
theorem zeS : type_of% @Tryz.results75 := @Tryz.results75
theorem zcy : type_of% @Tryz.results88 := @Tryz.results88
theorem zcx : type_of% @Tryz.sizeOf105 := @Tryz.sizeOf105
theorem zci : type_of% @Tryz.sizeOf107 := @Tryz.sizeOf107
theorem zdd : type_of% @Tryz.sizeOf122 := @Tryz.sizeOf122
theorem zeb : type_of% @Tryz.sizeOf139 := @Tryz.sizeOf139
theorem zgR : type_of% @Tryz.sizeOf154 := @Tryz.sizeOf154
theorem zeR : type_of% @Tryz.sizeOf229 := @Tryz.sizeOf229
theorem zch : type_of% @Tryz.sizeOf231 := @Tryz.sizeOf231
theorem zcn : type_of% @Tryz.sizeOf26 := @Tryz.sizeOf26
theorem zay : type_of% @Tryz.sizeOf28 := @Tryz.sizeOf28
theorem zdc : type_of% @Tryz.sizeOf29 := @Tryz.sizeOf29
theorem zn : type_of% @Tryz.sizeOf3 := @Tryz.sizeOf3
theorem zcf : type_of% @Tryz.sizeOf30 := @Tryz.sizeOf30
theorem zaF : type_of% @Tryz.sizeOf32 := @Tryz.sizeOf32
theorem zbi : type_of% @Tryz.sizeOf33 := @Tryz.sizeOf33
theorem zbA : type_of% @Tryz.sizeOf34 := @Tryz.sizeOf34
theorem zar : type_of% @Tryz.sizeOf36 := @Tryz.sizeOf36
theorem zbR : type_of% @Tryz.sizeOf38 := @Tryz.sizeOf38
theorem zbh : type_of% @Tryz.sizeOf4 := @Tryz.sizeOf4
theorem zeg : type_of% @Tryz.sizeOf43 := @Tryz.sizeOf43
theorem zac : type_of% @Tryz.sizeOf49 := @Tryz.sizeOf49
theorem zbv : type_of% @Tryz.sizeOf5 := @Tryz.sizeOf5
theorem zag : type_of% @Tryz.sizeOf51 := @Tryz.sizeOf51
theorem zab : type_of% @Tryz.sizeOf53 := @Tryz.sizeOf53
theorem zbz : type_of% @Tryz.sizeOf58 := @Tryz.sizeOf58
theorem zef : type_of% @Tryz.sizeOf59 := @Tryz.sizeOf59
theorem zce : type_of% @Tryz.sizeOf66 := @Tryz.sizeOf66
theorem zbJ : type_of% @Tryz.sizeOf68 := @Tryz.sizeOf68
theorem zaj : type_of% @Tryz.sizeOf9 := @Tryz.sizeOf9
theorem zaW : type_of% @Tryz.underlying105 := @Tryz.underlying105
theorem zaV : type_of% @Tryz.underlying107 := @Tryz.underlying107
theorem zbD : type_of% @Tryz.underlying122 := @Tryz.underlying122
theorem zfk : type_of% @Tryz.underlying137 := @Tryz.underlying137
theorem zdg : type_of% @Tryz.underlying139 := @Tryz.underlying139
theorem zeq : type_of% @Tryz.underlying140 := @Tryz.underlying140
theorem zep : type_of% @Tryz.underlying150 := @Tryz.underlying150
theorem zeo : type_of% @Tryz.underlying151 := @Tryz.underlying151
theorem zcb : type_of% @Tryz.underlying154 := @Tryz.underlying154
theorem zdz : type_of% @Tryz.underlying178 := @Tryz.underlying178
theorem zdq : type_of% @Tryz.underlying182 := @Tryz.underlying182
theorem zdY : type_of% @Tryz.underlying202 := @Tryz.underlying202
theorem zfj : type_of% @Tryz.underlying229 := @Tryz.underlying229
theorem zae : type_of% @Tryz.underlying231 := @Tryz.underlying231
theorem zcp : type_of% @Tryz.underlying232 := @Tryz.underlying232
theorem zaY : type_of% @Tryz.underlying26 := @Tryz.underlying26
theorem zbf : type_of% @Tryz.underlying28 := @Tryz.underlying28
theorem zbn : type_of% @Tryz.underlying29 := @Tryz.underlying29
theorem zck : type_of% @Tryz.underlying3 := @Tryz.underlying3
theorem zaB : type_of% @Tryz.underlying30 := @Tryz.underlying30
theorem zal : type_of% @Tryz.underlying32 := @Tryz.underlying32
theorem zao : type_of% @Tryz.underlying33 := @Tryz.underlying33
theorem zaA : type_of% @Tryz.underlying34 := @Tryz.underlying34
theorem zA : type_of% @Tryz.underlying36 := @Tryz.underlying36
theorem zh : type_of% @Tryz.underlying38 := @Tryz.underlying38
theorem zbw : type_of% @Tryz.underlying4 := @Tryz.underlying4
theorem zan : type_of% @Tryz.underlying49 := @Tryz.underlying49
theorem zbm : type_of% @Tryz.underlying51 := @Tryz.underlying51
theorem zo : type_of% @Tryz.underlying53 := @Tryz.underlying53
theorem zbe : type_of% @Tryz.underlying58 := @Tryz.underlying58
theorem zT : type_of% @Tryz.underlying59 := @Tryz.underlying59
theorem zba : type_of% @Tryz.underlying66 := @Tryz.underlying66
theorem zaD : type_of% @Tryz.underlying68 := @Tryz.underlying68
theorem zaz : type_of% @Tryz.underlying76 := @Tryz.underlying76
theorem zaq : type_of% @Tryz.underlying9 := @Tryz.underlying9
theorem zez : type_of% @Tryz.zeroValue32 := @Tryz.zeroValue32
theorem zey : type_of% @Tryz.zeroValue36 := @Tryz.zeroValue36
theorem zfX : type_of% @Tryz.zeroValue4 := @Tryz.zeroValue4
theorem zea : type_of% @Tryz.zeroValue51 := @Tryz.zeroValue51
theorem zbW : type_of% @Tryz.zeroValue53 := @Tryz.zeroValue53
end Go.Pk
