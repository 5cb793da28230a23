/- A PART OF THE PROOF: contracts of functions, each walked once (much of it printed by a program of the author's own). -/
import Derived.Test.YtfpiiheehdedmaaGreatDoorT1
import Derived.Test.YtfpiiheehdedmaaGreatDoorT2
import Derived.Test.YtfpiiheehdedmaaGreatDoorT0
import Derived.Test.YtfpiiheehdedmaaGreatDoorProg
set_option linter.unusedSimpArgs false
set_option linter.unusedVariables false
namespace Go.Pk
open Go Go.RowKit Go.Proofs
theorem _root_.Go.Proofs.Tryz.mixed : Tryz.prog.follows .mixedOrders = true := by kernel_rfl
theorem _root_.Go.Proofs.Tryz.info3 : Tryz.prog.info? 3 = some Tryz.t3 := by kernel_rfl
theorem _root_.Go.Proofs.Tryz.info9 : Tryz.prog.info? 9 = some Tryz.t9 := by kernel_rfl
theorem _root_.Go.Proofs.Tryz.info42 : Tryz.prog.info? 42 = some Tryz.t42 := by kernel_rfl
theorem _root_.Go.Proofs.Tryz.info60 : Tryz.prog.info? 60 = some Tryz.t60 := by kernel_rfl
theorem _root_.Go.Proofs.Tryz.info68 : Tryz.prog.info? 68 = some Tryz.t68 := by kernel_rfl
theorem _root_.Go.Proofs.Tryz.info72 : Tryz.prog.info? 72 = some Tryz.t72 := by kernel_rfl
theorem _root_.Go.Proofs.Tryz.info74 : Tryz.prog.info? 74 = some Tryz.t74 := by kernel_rfl
theorem _root_.Go.Proofs.Tryz.info79 : Tryz.prog.info? 79 = some Tryz.t79 := by kernel_rfl
theorem _root_.Go.Proofs.Tryz.info84 : Tryz.prog.info? 84 = some Tryz.t84 := by kernel_rfl
theorem _root_.Go.Proofs.Tryz.info152 : Tryz.prog.info? 152 = some Tryz.t152 := by kernel_rfl
theorem _root_.Go.Proofs.Tryz.eq_Span (x y : Span) (w : World) : (binOp .eql 36 (.agg [.int .i64 x.lo, .int .i64 x.hi].toArray) (.agg [.int .i64 y.lo, .int .i64 y.hi].toArray)).run Tryz.prog w = .ok (.bool (decide (x = y))) w := by
 rcases x with ⟨alo, ahi⟩
 rcases y with ⟨blo, bhi⟩
 rw [run_eql_struct]
 simp [go_sem, strV, strV_toList]
 repeat' split
 all_goals simp_all
theorem _root_.Go.Proofs.Tryz.eq_Rule (x y : Rule) (w : World) : (binOp .eql 68 (.agg [strV x.cut, strV x.put, .int .i64 x.least].toArray) (.agg [strV y.cut, strV y.put, .int .i64 y.least].toArray)).run Tryz.prog w = .ok (.bool (decide (x = y))) w := by
 rcases x with ⟨acut, aput, aleast⟩
 rcases y with ⟨bcut, bput, bleast⟩
 rw [run_eql_struct]
 simp [go_sem, strV, strV_toList]
 repeat' split
 all_goals simp_all
theorem _root_.Go.Proofs.Tryz.eq_Place (x y : Place) (w : World) : (binOp .eql 70 (.agg [.int .i64 x.chapter, .int .i64 x.line, .int .i64 x.word].toArray) (.agg [.int .i64 y.chapter, .int .i64 y.line, .int .i64 y.word].toArray)).run Tryz.prog w = .ok (.bool (decide (x = y))) w := by
 rcases x with ⟨achapter, aline, aword⟩
 rcases y with ⟨bchapter, bline, bword⟩
 rw [run_eql_struct]
 simp [go_sem, strV, strV_toList]
 repeat' split
 all_goals simp_all
theorem _root_.Go.Proofs.Tryz.eq_Head (x y : Head) (w : World) : (binOp .eql 72 (.agg [strV x.stem, .int .u8 x.mark].toArray) (.agg [strV y.stem, .int .u8 y.mark].toArray)).run Tryz.prog w = .ok (.bool (decide (x = y))) w := by
 rcases x with ⟨astem, amark⟩
 rcases y with ⟨bstem, bmark⟩
 rw [run_eql_struct]
 simp [go_sem, strV, strV_toList]
 repeat' split
 all_goals simp_all
theorem _root_.Go.Proofs.Tryz.eq_Decision (x y : Decision) (w : World) : (binOp .eql 74 (.agg [.int .i64 x.number, .int .u8 x.kind, strV x.form, .int .i64 x.at_.chapter, .int .i64 x.at_.line, .int .i64 x.at_.word, strV x.to.stem, .int .u8 x.to.mark, .int .i64 x.of_].toArray) (.agg [.int .i64 y.number, .int .u8 y.kind, strV y.form, .int .i64 y.at_.chapter, .int .i64 y.at_.line, .int .i64 y.at_.word, strV y.to.stem, .int .u8 y.to.mark, .int .i64 y.of_].toArray)).run Tryz.prog w = .ok (.bool (decide (x = y))) w := by
 rcases x with ⟨anumber, akind, aform, ⟨aat_chapter, aat_line, aat_word⟩, ⟨atostem, atomark⟩, aof_⟩
 rcases y with ⟨bnumber, bkind, bform, ⟨bat_chapter, bat_line, bat_word⟩, ⟨btostem, btomark⟩, bof_⟩
 rw [run_eql_struct]
 simp [go_sem, strV, strV_toList]
 repeat' split
 all_goals simp_all
end Go.Pk
