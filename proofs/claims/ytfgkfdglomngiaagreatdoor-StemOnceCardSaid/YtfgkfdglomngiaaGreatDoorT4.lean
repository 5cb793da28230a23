/- A PART OF THE PROOF: contracts of functions, each walked once (much of it printed by a program of the author's own). -/
import Derived.Test.YtfgkfdglomngiaaGreatDoorT1
import Derived.Test.YtfgkfdglomngiaaGreatDoorT2
import Derived.Test.YtfgkfdglomngiaaGreatDoorT0
import Derived.Test.YtfgkfdglomngiaaGreatDoorProg
set_option linter.unusedSimpArgs false
set_option linter.unusedVariables false
namespace Go.Pk
open Go Go.RowKit Go.Proofs
theorem _root_.Go.Proofs.Tryz.mixed : Tryz.prog.follows .mixedOrders = true := by kernel_rfl
theorem _root_.Go.Proofs.Tryz.info3 : Tryz.prog.info? 3 = some Tryz.t3 := by kernel_rfl
theorem _root_.Go.Proofs.Tryz.info9 : Tryz.prog.info? 9 = some Tryz.t9 := by kernel_rfl
theorem _root_.Go.Proofs.Tryz.info30 : Tryz.prog.info? 30 = some Tryz.t30 := by kernel_rfl
theorem _root_.Go.Proofs.Tryz.info32 : Tryz.prog.info? 32 = some Tryz.t32 := by kernel_rfl
theorem _root_.Go.Proofs.Tryz.info34 : Tryz.prog.info? 34 = some Tryz.t34 := by kernel_rfl
theorem _root_.Go.Proofs.Tryz.info62 : Tryz.prog.info? 62 = some Tryz.t62 := by kernel_rfl
theorem _root_.Go.Proofs.Tryz.info70 : Tryz.prog.info? 70 = some Tryz.t70 := by kernel_rfl
theorem _root_.Go.Proofs.Tryz.info120 : Tryz.prog.info? 120 = some Tryz.t120 := by kernel_rfl
theorem _root_.Go.Proofs.Tryz.info133 : Tryz.prog.info? 133 = some Tryz.t133 := by kernel_rfl
theorem _root_.Go.Proofs.Tryz.eq_Place (x y : Place) (w : World) : (binOp .eql 30 (.agg [.int .i64 x.chapter, .int .i64 x.line, .int .i64 x.word].toArray) (.agg [.int .i64 y.chapter, .int .i64 y.line, .int .i64 y.word].toArray)).run Tryz.prog w = .ok (.bool (decide (x = y))) w := by
 rcases x with ⟨achapter, aline, aword⟩
 rcases y with ⟨bchapter, bline, bword⟩
 rw [run_eql_struct]
 simp [go_sem, strV, strV_toList]
 repeat' split
 all_goals simp_all
theorem _root_.Go.Proofs.Tryz.eq_Head (x y : Head) (w : World) : (binOp .eql 32 (.agg [strV x.stem, .int .u8 x.mark].toArray) (.agg [strV y.stem, .int .u8 y.mark].toArray)).run Tryz.prog w = .ok (.bool (decide (x = y))) w := by
 rcases x with ⟨astem, amark⟩
 rcases y with ⟨bstem, bmark⟩
 rw [run_eql_struct]
 simp [go_sem, strV, strV_toList]
 repeat' split
 all_goals simp_all
theorem _root_.Go.Proofs.Tryz.eq_Decision (x y : Decision) (w : World) : (binOp .eql 34 (.agg [.int .i64 x.number, .int .u8 x.kind, strV x.form, .int .i64 x.at_.chapter, .int .i64 x.at_.line, .int .i64 x.at_.word, strV x.to.stem, .int .u8 x.to.mark, .int .i64 x.of_].toArray) (.agg [.int .i64 y.number, .int .u8 y.kind, strV y.form, .int .i64 y.at_.chapter, .int .i64 y.at_.line, .int .i64 y.at_.word, strV y.to.stem, .int .u8 y.to.mark, .int .i64 y.of_].toArray)).run Tryz.prog w = .ok (.bool (decide (x = y))) w := by
 rcases x with ⟨anumber, akind, aform, ⟨aat_chapter, aat_line, aat_word⟩, ⟨atostem, atomark⟩, aof_⟩
 rcases y with ⟨bnumber, bkind, bform, ⟨bat_chapter, bat_line, bat_word⟩, ⟨btostem, btomark⟩, bof_⟩
 rw [run_eql_struct]
 simp [go_sem, strV, strV_toList]
 repeat' split
 all_goals simp_all
theorem _root_.Go.Proofs.Tryz.eq_Entry (x y : Entry) (w : World) : (binOp .eql 120 (.agg [.int .i64 x.at_.chapter, .int .i64 x.at_.line, .int .i64 x.at_.word, strV x.word, strV x.head.stem, .int .u8 x.head.mark].toArray) (.agg [.int .i64 y.at_.chapter, .int .i64 y.at_.line, .int .i64 y.at_.word, strV y.word, strV y.head.stem, .int .u8 y.head.mark].toArray)).run Tryz.prog w = .ok (.bool (decide (x = y))) w := by
 rcases x with ⟨⟨aat_chapter, aat_line, aat_word⟩, aword, ⟨aheadstem, aheadmark⟩⟩
 rcases y with ⟨⟨bat_chapter, bat_line, bat_word⟩, bword, ⟨bheadstem, bheadmark⟩⟩
 rw [run_eql_struct]
 simp [go_sem, strV, strV_toList]
 repeat' split
 all_goals simp_all
end Go.Pk
