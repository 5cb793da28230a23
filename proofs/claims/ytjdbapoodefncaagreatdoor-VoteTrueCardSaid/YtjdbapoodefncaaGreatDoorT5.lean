/- A PART OF THE PROOF: contracts of functions, each walked once (much of it printed by a program of the author's own). -/
import Derived.Test.YtjdbapoodefncaaGreatDoorT1
import Derived.Test.YtjdbapoodefncaaGreatDoorT3
import Derived.Test.YtjdbapoodefncaaGreatDoorT0
import Derived.Test.YtjdbapoodefncaaGreatDoorT2
import Derived.Test.YtjdbapoodefncaaGreatDoorProg
set_option linter.unusedSimpArgs false
set_option linter.unusedVariables false
set_option maxRecDepth 4000
namespace Go.Pk
open Go Go.RowKit Go.Proofs
theorem _root_.Go.Proofs.Tryz.mixed : Tryz.prog.follows .mixedOrders = true := by kernel_rfl
theorem _root_.Go.Proofs.Tryz.info3 : Tryz.prog.info? 3 = some Tryz.t3 := by kernel_rfl
theorem _root_.Go.Proofs.Tryz.info9 : Tryz.prog.info? 9 = some Tryz.t9 := by kernel_rfl
theorem _root_.Go.Proofs.Tryz.info38 : Tryz.prog.info? 38 = some Tryz.t38 := by kernel_rfl
theorem _root_.Go.Proofs.Tryz.info51 : Tryz.prog.info? 51 = some Tryz.t51 := by kernel_rfl
theorem _root_.Go.Proofs.Tryz.info53 : Tryz.prog.info? 53 = some Tryz.t53 := by kernel_rfl
theorem _root_.Go.Proofs.Tryz.info58 : Tryz.prog.info? 58 = some Tryz.t58 := by kernel_rfl
theorem _root_.Go.Proofs.Tryz.info59 : Tryz.prog.info? 59 = some Tryz.t59 := by kernel_rfl
theorem _root_.Go.Proofs.Tryz.info68 : Tryz.prog.info? 68 = some Tryz.t68 := by kernel_rfl
theorem _root_.Go.Proofs.Tryz.info107 : Tryz.prog.info? 107 = some Tryz.t107 := by kernel_rfl
theorem _root_.Go.Proofs.Tryz.info122 : Tryz.prog.info? 122 = some Tryz.t122 := by kernel_rfl
theorem _root_.Go.Proofs.Tryz.info154 : Tryz.prog.info? 154 = some Tryz.t154 := by kernel_rfl
theorem _root_.Go.Proofs.Tryz.eq_Span (x y : Span) (w : World) : (binOp .eql 43 (.agg [.int .i64 x.lo, .int .i64 x.hi].toArray) (.agg [.int .i64 y.lo, .int .i64 y.hi].toArray)).run Tryz.prog w = .ok (.bool (decide (x = y))) w := by
 rcases x with ⟨alo, ahi⟩
 rcases y with ⟨blo, bhi⟩
 rw [run_eql_struct];simp [go_sem, zP, zgs]
 repeat' split
 all_goals simp_all
theorem _root_.Go.Proofs.Tryz.eq_Place (x y : Place) (w : World) : (binOp .eql 49 (.agg [.int .i64 x.chapter, .int .i64 x.line, .int .i64 x.word].toArray) (.agg [.int .i64 y.chapter, .int .i64 y.line, .int .i64 y.word].toArray)).run Tryz.prog w = .ok (.bool (decide (x = y))) w := by
 rcases x with ⟨achapter, aline, aword⟩
 rcases y with ⟨bchapter, bline, bword⟩
 rw [run_eql_struct];simp [go_sem, zP, zgs]
 repeat' split
 all_goals simp_all
theorem _root_.Go.Proofs.Tryz.eq_Head (x y : Head) (w : World) : (binOp .eql 51 (.agg [zP x.stem, .int .u8 x.mark].toArray) (.agg [zP y.stem, .int .u8 y.mark].toArray)).run Tryz.prog w = .ok (.bool (decide (x = y))) w := by
 rcases x with ⟨astem, amark⟩
 rcases y with ⟨bstem, bmark⟩
 rw [run_eql_struct];simp [go_sem, zP, zgs]
 repeat' split
 all_goals simp_all
theorem _root_.Go.Proofs.Tryz.eq_Decision (x y : Decision) (w : World) : (binOp .eql 53 (.agg [.int .i64 x.number, .int .u8 x.kind, zP x.form, .int .i64 x.at_.chapter, .int .i64 x.at_.line, .int .i64 x.at_.word, zP x.to.stem, .int .u8 x.to.mark, .int .i64 x.of_].toArray) (.agg [.int .i64 y.number, .int .u8 y.kind, zP y.form, .int .i64 y.at_.chapter, .int .i64 y.at_.line, .int .i64 y.at_.word, zP y.to.stem, .int .u8 y.to.mark, .int .i64 y.of_].toArray)).run Tryz.prog w = .ok (.bool (decide (x = y))) w := by
 rcases x with ⟨anumber, akind, aform, ⟨aat_chapter, aat_line, aat_word⟩, ⟨atostem, atomark⟩, aof_⟩
 rcases y with ⟨bnumber, bkind, bform, ⟨bat_chapter, bat_line, bat_word⟩, ⟨btostem, btomark⟩, bof_⟩
 rw [run_eql_struct];simp [go_sem, zP, zgs]
 repeat' split
 all_goals simp_all
theorem zfQ : type_of% @Tryz.call125 := @Tryz.call125
theorem zgC : type_of% @Tryz.call181 := @Tryz.call181
theorem zhG : type_of% @Tryz.call50 := @Tryz.call50
theorem zfC : type_of% @Tryz.call51 := @Tryz.call51
theorem zcn : type_of% @Tryz.isAgg105 := @Tryz.isAgg105
theorem zfB : type_of% @Tryz.isAgg229 := @Tryz.isAgg229
theorem zca : type_of% @Tryz.isAgg26 := @Tryz.isAgg26
theorem zbj : type_of% @Tryz.isAgg28 := @Tryz.isAgg28
theorem zea : type_of% @Tryz.isAgg29 := @Tryz.isAgg29
theorem zB : type_of% @Tryz.isAgg3 := @Tryz.isAgg3
theorem zdf : type_of% @Tryz.isAgg30 := @Tryz.isAgg30
theorem zbZ : type_of% @Tryz.isAgg32 := @Tryz.isAgg32
theorem zbx : type_of% @Tryz.isAgg33 := @Tryz.isAgg33
theorem zbH : type_of% @Tryz.isAgg34 := @Tryz.isAgg34
theorem zbt : type_of% @Tryz.isAgg36 := @Tryz.isAgg36
theorem zbR : type_of% @Tryz.isAgg38 := @Tryz.isAgg38
theorem zbN : type_of% @Tryz.isAgg4 := @Tryz.isAgg4
theorem zaR : type_of% @Tryz.isAgg49 := @Tryz.isAgg49
theorem zbW : type_of% @Tryz.isAgg5 := @Tryz.isAgg5
theorem zbQ : type_of% @Tryz.isAgg51 := @Tryz.isAgg51
theorem zaY : type_of% @Tryz.isAgg53 := @Tryz.isAgg53
theorem zgB : type_of% @Tryz.isAgg58 := @Tryz.isAgg58
theorem zen : type_of% @Tryz.isAgg59 := @Tryz.isAgg59
theorem zco : type_of% @Tryz.isAgg66 := @Tryz.isAgg66
theorem zeZ : type_of% @Tryz.isAgg76 := @Tryz.isAgg76
theorem zaA : type_of% @Tryz.isAgg9 := @Tryz.isAgg9
theorem zfP : type_of% @Tryz.results101 := @Tryz.results101
theorem zeQ : type_of% @Tryz.results106 := @Tryz.results106
theorem zcl : type_of% @Tryz.results113 := @Tryz.results113
theorem zfO : type_of% @Tryz.results116 := @Tryz.results116
theorem zfN : type_of% @Tryz.results117 := @Tryz.results117
theorem zer : type_of% @Tryz.results120 := @Tryz.results120
theorem zeP : type_of% @Tryz.results200 := @Tryz.results200
theorem zdX : type_of% @Tryz.results25 := @Tryz.results25
theorem zgA : type_of% @Tryz.results38 := @Tryz.results38
theorem zfA : type_of% @Tryz.results39 := @Tryz.results39
theorem zgz : type_of% @Tryz.results71 := @Tryz.results71
theorem zeJ : type_of% @Tryz.results75 := @Tryz.results75
theorem zcq : type_of% @Tryz.results88 := @Tryz.results88
theorem zbJ : type_of% @Tryz.sizeOf105 := @Tryz.sizeOf105
theorem zbA : type_of% @Tryz.sizeOf107 := @Tryz.sizeOf107
theorem zdu : type_of% @Tryz.sizeOf122 := @Tryz.sizeOf122
theorem zdW : type_of% @Tryz.sizeOf139 := @Tryz.sizeOf139
theorem zeI : type_of% @Tryz.sizeOf229 := @Tryz.sizeOf229
theorem zcf : type_of% @Tryz.sizeOf231 := @Tryz.sizeOf231
theorem zbw : type_of% @Tryz.sizeOf26 := @Tryz.sizeOf26
theorem zav : type_of% @Tryz.sizeOf28 := @Tryz.sizeOf28
theorem zdj : type_of% @Tryz.sizeOf29 := @Tryz.sizeOf29
theorem zl : type_of% @Tryz.sizeOf3 := @Tryz.sizeOf3
theorem zcv : type_of% @Tryz.sizeOf30 := @Tryz.sizeOf30
theorem zaJ : type_of% @Tryz.sizeOf32 := @Tryz.sizeOf32
theorem zbe : type_of% @Tryz.sizeOf33 := @Tryz.sizeOf33
theorem zbd : type_of% @Tryz.sizeOf34 := @Tryz.sizeOf34
theorem zaM : type_of% @Tryz.sizeOf36 := @Tryz.sizeOf36
theorem zbC : type_of% @Tryz.sizeOf38 := @Tryz.sizeOf38
theorem zbi : type_of% @Tryz.sizeOf4 := @Tryz.sizeOf4
theorem zev : type_of% @Tryz.sizeOf43 := @Tryz.sizeOf43
theorem zY : type_of% @Tryz.sizeOf49 := @Tryz.sizeOf49
theorem zbs : type_of% @Tryz.sizeOf5 := @Tryz.sizeOf5
theorem zai : type_of% @Tryz.sizeOf51 := @Tryz.sizeOf51
theorem zab : type_of% @Tryz.sizeOf53 := @Tryz.sizeOf53
theorem zbg : type_of% @Tryz.sizeOf58 := @Tryz.sizeOf58
theorem zdQ : type_of% @Tryz.sizeOf59 := @Tryz.sizeOf59
theorem zbS : type_of% @Tryz.sizeOf66 := @Tryz.sizeOf66
theorem zbB : type_of% @Tryz.sizeOf68 := @Tryz.sizeOf68
theorem zak : type_of% @Tryz.sizeOf9 := @Tryz.sizeOf9
theorem zaO : type_of% @Tryz.underlying105 := @Tryz.underlying105
theorem zaD : type_of% @Tryz.underlying107 := @Tryz.underlying107
theorem zbz : type_of% @Tryz.underlying122 := @Tryz.underlying122
theorem zeU : type_of% @Tryz.underlying137 := @Tryz.underlying137
theorem zcX : type_of% @Tryz.underlying139 := @Tryz.underlying139
theorem zem : type_of% @Tryz.underlying140 := @Tryz.underlying140
theorem zdP : type_of% @Tryz.underlying154 := @Tryz.underlying154
theorem zdt : type_of% @Tryz.underlying178 := @Tryz.underlying178
theorem zdi : type_of% @Tryz.underlying182 := @Tryz.underlying182
theorem zdO : type_of% @Tryz.underlying202 := @Tryz.underlying202
theorem zeT : type_of% @Tryz.underlying229 := @Tryz.underlying229
theorem zac : type_of% @Tryz.underlying231 := @Tryz.underlying231
theorem zci : type_of% @Tryz.underlying232 := @Tryz.underlying232
theorem zaH : type_of% @Tryz.underlying26 := @Tryz.underlying26
theorem zaP : type_of% @Tryz.underlying28 := @Tryz.underlying28
theorem zbD : type_of% @Tryz.underlying29 := @Tryz.underlying29
theorem zcg : type_of% @Tryz.underlying3 := @Tryz.underlying3
theorem zaU : type_of% @Tryz.underlying30 := @Tryz.underlying30
theorem zaz : type_of% @Tryz.underlying32 := @Tryz.underlying32
theorem zap : type_of% @Tryz.underlying33 := @Tryz.underlying33
theorem zao : type_of% @Tryz.underlying34 := @Tryz.underlying34
theorem zz : type_of% @Tryz.underlying36 := @Tryz.underlying36
theorem zg : type_of% @Tryz.underlying38 := @Tryz.underlying38
theorem zbn : type_of% @Tryz.underlying4 := @Tryz.underlying4
theorem zan : type_of% @Tryz.underlying49 := @Tryz.underlying49
theorem zbm : type_of% @Tryz.underlying51 := @Tryz.underlying51
theorem zp : type_of% @Tryz.underlying53 := @Tryz.underlying53
theorem zaB : type_of% @Tryz.underlying58 := @Tryz.underlying58
theorem zW : type_of% @Tryz.underlying59 := @Tryz.underlying59
theorem zaT : type_of% @Tryz.underlying66 := @Tryz.underlying66
theorem zaw : type_of% @Tryz.underlying68 := @Tryz.underlying68
theorem zbv : type_of% @Tryz.underlying76 := @Tryz.underlying76
theorem zax : type_of% @Tryz.underlying9 := @Tryz.underlying9
theorem zeY : type_of% @Tryz.zeroValue32 := @Tryz.zeroValue32
theorem zeX : type_of% @Tryz.zeroValue36 := @Tryz.zeroValue36
theorem zfM : type_of% @Tryz.zeroValue4 := @Tryz.zeroValue4
theorem zeW : type_of% @Tryz.zeroValue51 := @Tryz.zeroValue51
theorem zbV : type_of% @Tryz.zeroValue53 := @Tryz.zeroValue53
theorem zeV : type_of% @Tryz.zeroValue58 := @Tryz.zeroValue58
end Go.Pk
