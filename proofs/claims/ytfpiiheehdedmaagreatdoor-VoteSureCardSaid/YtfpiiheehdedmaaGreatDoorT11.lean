/- A PART OF THE PROOF: contracts of functions, each walked once (much of it printed by a program of the author's own). -/
import Derived.Test.YtfpiiheehdedmaaGreatDoorT8
import Derived.Test.YtfpiiheehdedmaaGreatDoorT10
set_option linter.unusedSimpArgs false
set_option linter.unusedVariables false
set_option maxRecDepth 4000
namespace Go.Pk
open Go Go.RowKit Go.Proofs
set_option maxRecDepth 100000 in
theorem _root_.Go.Proofs.Tryz.kinds_laid {W : World} (h : laidMetH Tryz.prog [("postil/stem.kinds", Go.Proofs.YtfpiiheehdedmaaGreatDoor.Rows.laid_postil_stem_kinds), ("postil/vote.asked", Go.Proofs.YtfpiiheehdedmaaGreatDoor.Rows.laid_postil_vote_asked)] W) : Cells (zeR W) 1 0 Tryz.glob1 := by
 obtain ⟨g_, t_, cs_, fuel_, p_, hg, ht, hv, hd⟩ := h.funcs (List.mem_cons_self)
 obtain rfl := Option.some.inj ((show Tryz.prog.globalNamed "postil/stem.kinds" = some 1 by kernel_rfl).symm.trans hg)
 obtain rfl := Option.some.inj ((show (Tryz.prog.globals[1]?).map (·.type) = some 257 by kernel_rfl).symm.trans ht)
 obtain ⟨hl, hel⟩ := trod_agg_array zci hd
 have hl : cs_.toList.length = 25 := hl.trans (by kernel_rfl)
 have hc := var_cells hg hv (by rw [hl]; decide)
 generalize cs_.toList = l_ at *
 match l_, hl with
 | [c0, c1, c2, c3, c4, c5, c6, c7, c8, c9, c10, c11, c12, c13, c14, c15, c16, c17, c18, c19, c20, c21, c22, c23, c24], _ =>
 obtain ⟨n0, q0, e0⟩ := hel 0 _ rfl
 have u0 := (show Tryz.prog.cellsOf 256 = 5 by kernel_rfl)
 rw [u0] at e0
 simp only [Nat.reduceMul, List.drop_succ_cons, List.drop_zero, List.take_succ_cons, List.take_zero] at e0
 obtain ⟨_, f0⟩ := zcR zab e0
 obtain ⟨n0_0, q0_0, e0_0⟩ := f0 0 _ _ rfl rfl
 have w0_0 := (show Tryz.prog.cellsOf 4 = 1 by kernel_rfl)
 replace e0_0 := (show DataW.trod _ _ _ _ _ _ _ 4 (List.take (Tryz.prog.cellsOf 4) (List.drop 0 _)) = some (_, _) from e0_0)
 rw [w0_0] at e0_0
 simp only [List.drop_succ_cons, List.drop_zero, List.take_succ_cons, List.take_zero] at e0_0
 obtain rfl := zbI zbv e0_0
 obtain ⟨n0_1, q0_1, e0_1⟩ := f0 1 _ _ rfl rfl
 have w0_1 := (show Tryz.prog.cellsOf 4 = 1 by kernel_rfl)
 replace e0_1 := (show DataW.trod _ _ _ _ _ _ _ 4 (List.take (Tryz.prog.cellsOf 4) (List.drop 1 _)) = some (_, _) from e0_1)
 rw [w0_1] at e0_1
 simp only [List.drop_succ_cons, List.drop_zero, List.take_succ_cons, List.take_zero] at e0_1
 obtain rfl := zbI zbv e0_1
 obtain ⟨n0_2, q0_2, e0_2⟩ := f0 2 _ _ rfl rfl
 have w0_2 := (show Tryz.prog.cellsOf 4 = 1 by kernel_rfl)
 replace e0_2 := (show DataW.trod _ _ _ _ _ _ _ 4 (List.take (Tryz.prog.cellsOf 4) (List.drop 2 _)) = some (_, _) from e0_2)
 rw [w0_2] at e0_2
 simp only [List.drop_succ_cons, List.drop_zero, List.take_succ_cons, List.take_zero] at e0_2
 obtain rfl := zbI zbv e0_2
 obtain ⟨n0_3, q0_3, e0_3⟩ := f0 3 _ _ rfl rfl
 have w0_3 := (show Tryz.prog.cellsOf 4 = 1 by kernel_rfl)
 replace e0_3 := (show DataW.trod _ _ _ _ _ _ _ 4 (List.take (Tryz.prog.cellsOf 4) (List.drop 3 _)) = some (_, _) from e0_3)
 rw [w0_3] at e0_3
 simp only [List.drop_succ_cons, List.drop_zero, List.take_succ_cons, List.take_zero] at e0_3
 obtain rfl := zbI zbv e0_3
 obtain ⟨n0_4, q0_4, e0_4⟩ := f0 4 _ _ rfl rfl
 have w0_4 := (show Tryz.prog.cellsOf 229 = 1 by kernel_rfl)
 replace e0_4 := (show DataW.trod _ _ _ _ _ _ _ 229 (List.take (Tryz.prog.cellsOf 229) (List.drop 4 _)) = some (_, _) from e0_4)
 rw [w0_4] at e0_4
 simp only [List.drop_succ_cons, List.drop_zero, List.take_succ_cons, List.take_zero] at e0_4
 obtain rfl := trod_nofunc zeJ e0_4
 obtain ⟨n1, q1, e1⟩ := hel 1 _ rfl
 have u1 := (show Tryz.prog.cellsOf 256 = 5 by kernel_rfl)
 rw [u1] at e1
 simp only [Nat.reduceMul, List.drop_succ_cons, List.drop_zero, List.take_succ_cons, List.take_zero] at e1
 obtain ⟨_, f1⟩ := zcR zab e1
 obtain ⟨n1_0, q1_0, e1_0⟩ := f1 0 _ _ rfl rfl
 have w1_0 := (show Tryz.prog.cellsOf 4 = 1 by kernel_rfl)
 replace e1_0 := (show DataW.trod _ _ _ _ _ _ _ 4 (List.take (Tryz.prog.cellsOf 4) (List.drop 0 _)) = some (_, _) from e1_0)
 rw [w1_0] at e1_0
 simp only [List.drop_succ_cons, List.drop_zero, List.take_succ_cons, List.take_zero] at e1_0
 obtain rfl := zbI zbv e1_0
 obtain ⟨n1_1, q1_1, e1_1⟩ := f1 1 _ _ rfl rfl
 have w1_1 := (show Tryz.prog.cellsOf 4 = 1 by kernel_rfl)
 replace e1_1 := (show DataW.trod _ _ _ _ _ _ _ 4 (List.take (Tryz.prog.cellsOf 4) (List.drop 1 _)) = some (_, _) from e1_1)
 rw [w1_1] at e1_1
 simp only [List.drop_succ_cons, List.drop_zero, List.take_succ_cons, List.take_zero] at e1_1
 obtain rfl := zbI zbv e1_1
 obtain ⟨n1_2, q1_2, e1_2⟩ := f1 2 _ _ rfl rfl
 have w1_2 := (show Tryz.prog.cellsOf 4 = 1 by kernel_rfl)
 replace e1_2 := (show DataW.trod _ _ _ _ _ _ _ 4 (List.take (Tryz.prog.cellsOf 4) (List.drop 2 _)) = some (_, _) from e1_2)
 rw [w1_2] at e1_2
 simp only [List.drop_succ_cons, List.drop_zero, List.take_succ_cons, List.take_zero] at e1_2
 obtain rfl := zbI zbv e1_2
 obtain ⟨n1_3, q1_3, e1_3⟩ := f1 3 _ _ rfl rfl
 have w1_3 := (show Tryz.prog.cellsOf 4 = 1 by kernel_rfl)
 replace e1_3 := (show DataW.trod _ _ _ _ _ _ _ 4 (List.take (Tryz.prog.cellsOf 4) (List.drop 3 _)) = some (_, _) from e1_3)
 rw [w1_3] at e1_3
 simp only [List.drop_succ_cons, List.drop_zero, List.take_succ_cons, List.take_zero] at e1_3
 obtain rfl := zbI zbv e1_3
 obtain ⟨n1_4, q1_4, e1_4⟩ := f1 4 _ _ rfl rfl
 have w1_4 := (show Tryz.prog.cellsOf 229 = 1 by kernel_rfl)
 replace e1_4 := (show DataW.trod _ _ _ _ _ _ _ 229 (List.take (Tryz.prog.cellsOf 229) (List.drop 4 _)) = some (_, _) from e1_4)
 rw [w1_4] at e1_4
 simp only [List.drop_succ_cons, List.drop_zero, List.take_succ_cons, List.take_zero] at e1_4
 obtain rfl := func_of_trod (f0 := 269) zeJ (by kernel_rfl) e1_4
 obtain ⟨n2, q2, e2⟩ := hel 2 _ rfl
 have u2 := (show Tryz.prog.cellsOf 256 = 5 by kernel_rfl)
 rw [u2] at e2
 simp only [Nat.reduceMul, List.drop_succ_cons, List.drop_zero, List.take_succ_cons, List.take_zero] at e2
 obtain ⟨_, f2⟩ := zcR zab e2
 obtain ⟨n2_0, q2_0, e2_0⟩ := f2 0 _ _ rfl rfl
 have w2_0 := (show Tryz.prog.cellsOf 4 = 1 by kernel_rfl)
 replace e2_0 := (show DataW.trod _ _ _ _ _ _ _ 4 (List.take (Tryz.prog.cellsOf 4) (List.drop 0 _)) = some (_, _) from e2_0)
 rw [w2_0] at e2_0
 simp only [List.drop_succ_cons, List.drop_zero, List.take_succ_cons, List.take_zero] at e2_0
 obtain rfl := zbI zbv e2_0
 obtain ⟨n2_1, q2_1, e2_1⟩ := f2 1 _ _ rfl rfl
 have w2_1 := (show Tryz.prog.cellsOf 4 = 1 by kernel_rfl)
 replace e2_1 := (show DataW.trod _ _ _ _ _ _ _ 4 (List.take (Tryz.prog.cellsOf 4) (List.drop 1 _)) = some (_, _) from e2_1)
 rw [w2_1] at e2_1
 simp only [List.drop_succ_cons, List.drop_zero, List.take_succ_cons, List.take_zero] at e2_1
 obtain rfl := zbI zbv e2_1
 obtain ⟨n2_2, q2_2, e2_2⟩ := f2 2 _ _ rfl rfl
 have w2_2 := (show Tryz.prog.cellsOf 4 = 1 by kernel_rfl)
 replace e2_2 := (show DataW.trod _ _ _ _ _ _ _ 4 (List.take (Tryz.prog.cellsOf 4) (List.drop 2 _)) = some (_, _) from e2_2)
 rw [w2_2] at e2_2
 simp only [List.drop_succ_cons, List.drop_zero, List.take_succ_cons, List.take_zero] at e2_2
 obtain rfl := zbI zbv e2_2
 obtain ⟨n2_3, q2_3, e2_3⟩ := f2 3 _ _ rfl rfl
 have w2_3 := (show Tryz.prog.cellsOf 4 = 1 by kernel_rfl)
 replace e2_3 := (show DataW.trod _ _ _ _ _ _ _ 4 (List.take (Tryz.prog.cellsOf 4) (List.drop 3 _)) = some (_, _) from e2_3)
 rw [w2_3] at e2_3
 simp only [List.drop_succ_cons, List.drop_zero, List.take_succ_cons, List.take_zero] at e2_3
 obtain rfl := zbI zbv e2_3
 obtain ⟨n2_4, q2_4, e2_4⟩ := f2 4 _ _ rfl rfl
 have w2_4 := (show Tryz.prog.cellsOf 229 = 1 by kernel_rfl)
 replace e2_4 := (show DataW.trod _ _ _ _ _ _ _ 229 (List.take (Tryz.prog.cellsOf 229) (List.drop 4 _)) = some (_, _) from e2_4)
 rw [w2_4] at e2_4
 simp only [List.drop_succ_cons, List.drop_zero, List.take_succ_cons, List.take_zero] at e2_4
 obtain rfl := func_of_trod (f0 := 270) zeJ (by kernel_rfl) e2_4
 obtain ⟨n3, q3, e3⟩ := hel 3 _ rfl
 have u3 := (show Tryz.prog.cellsOf 256 = 5 by kernel_rfl)
 rw [u3] at e3
 simp only [Nat.reduceMul, List.drop_succ_cons, List.drop_zero, List.take_succ_cons, List.take_zero] at e3
 obtain ⟨_, f3⟩ := zcR zab e3
 obtain ⟨n3_0, q3_0, e3_0⟩ := f3 0 _ _ rfl rfl
 have w3_0 := (show Tryz.prog.cellsOf 4 = 1 by kernel_rfl)
 replace e3_0 := (show DataW.trod _ _ _ _ _ _ _ 4 (List.take (Tryz.prog.cellsOf 4) (List.drop 0 _)) = some (_, _) from e3_0)
 rw [w3_0] at e3_0
 simp only [List.drop_succ_cons, List.drop_zero, List.take_succ_cons, List.take_zero] at e3_0
 obtain rfl := zbI zbv e3_0
 obtain ⟨n3_1, q3_1, e3_1⟩ := f3 1 _ _ rfl rfl
 have w3_1 := (show Tryz.prog.cellsOf 4 = 1 by kernel_rfl)
 replace e3_1 := (show DataW.trod _ _ _ _ _ _ _ 4 (List.take (Tryz.prog.cellsOf 4) (List.drop 1 _)) = some (_, _) from e3_1)
 rw [w3_1] at e3_1
 simp only [List.drop_succ_cons, List.drop_zero, List.take_succ_cons, List.take_zero] at e3_1
 obtain rfl := zbI zbv e3_1
 obtain ⟨n3_2, q3_2, e3_2⟩ := f3 2 _ _ rfl rfl
 have w3_2 := (show Tryz.prog.cellsOf 4 = 1 by kernel_rfl)
 replace e3_2 := (show DataW.trod _ _ _ _ _ _ _ 4 (List.take (Tryz.prog.cellsOf 4) (List.drop 2 _)) = some (_, _) from e3_2)
 rw [w3_2] at e3_2
 simp only [List.drop_succ_cons, List.drop_zero, List.take_succ_cons, List.take_zero] at e3_2
 obtain rfl := zbI zbv e3_2
 obtain ⟨n3_3, q3_3, e3_3⟩ := f3 3 _ _ rfl rfl
 have w3_3 := (show Tryz.prog.cellsOf 4 = 1 by kernel_rfl)
 replace e3_3 := (show DataW.trod _ _ _ _ _ _ _ 4 (List.take (Tryz.prog.cellsOf 4) (List.drop 3 _)) = some (_, _) from e3_3)
 rw [w3_3] at e3_3
 simp only [List.drop_succ_cons, List.drop_zero, List.take_succ_cons, List.take_zero] at e3_3
 obtain rfl := zbI zbv e3_3
 obtain ⟨n3_4, q3_4, e3_4⟩ := f3 4 _ _ rfl rfl
 have w3_4 := (show Tryz.prog.cellsOf 229 = 1 by kernel_rfl)
 replace e3_4 := (show DataW.trod _ _ _ _ _ _ _ 229 (List.take (Tryz.prog.cellsOf 229) (List.drop 4 _)) = some (_, _) from e3_4)
 rw [w3_4] at e3_4
 simp only [List.drop_succ_cons, List.drop_zero, List.take_succ_cons, List.take_zero] at e3_4
 obtain rfl := func_of_trod (f0 := 271) zeJ (by kernel_rfl) e3_4
 obtain ⟨n4, q4, e4⟩ := hel 4 _ rfl
 have u4 := (show Tryz.prog.cellsOf 256 = 5 by kernel_rfl)
 rw [u4] at e4
 simp only [Nat.reduceMul, List.drop_succ_cons, List.drop_zero, List.take_succ_cons, List.take_zero] at e4
 obtain ⟨_, f4⟩ := zcR zab e4
 obtain ⟨n4_0, q4_0, e4_0⟩ := f4 0 _ _ rfl rfl
 have w4_0 := (show Tryz.prog.cellsOf 4 = 1 by kernel_rfl)
 replace e4_0 := (show DataW.trod _ _ _ _ _ _ _ 4 (List.take (Tryz.prog.cellsOf 4) (List.drop 0 _)) = some (_, _) from e4_0)
 rw [w4_0] at e4_0
 simp only [List.drop_succ_cons, List.drop_zero, List.take_succ_cons, List.take_zero] at e4_0
 obtain rfl := zbI zbv e4_0
 obtain ⟨n4_1, q4_1, e4_1⟩ := f4 1 _ _ rfl rfl
 have w4_1 := (show Tryz.prog.cellsOf 4 = 1 by kernel_rfl)
 replace e4_1 := (show DataW.trod _ _ _ _ _ _ _ 4 (List.take (Tryz.prog.cellsOf 4) (List.drop 1 _)) = some (_, _) from e4_1)
 rw [w4_1] at e4_1
 simp only [List.drop_succ_cons, List.drop_zero, List.take_succ_cons, List.take_zero] at e4_1
 obtain rfl := zbI zbv e4_1
 obtain ⟨n4_2, q4_2, e4_2⟩ := f4 2 _ _ rfl rfl
 have w4_2 := (show Tryz.prog.cellsOf 4 = 1 by kernel_rfl)
 replace e4_2 := (show DataW.trod _ _ _ _ _ _ _ 4 (List.take (Tryz.prog.cellsOf 4) (List.drop 2 _)) = some (_, _) from e4_2)
 rw [w4_2] at e4_2
 simp only [List.drop_succ_cons, List.drop_zero, List.take_succ_cons, List.take_zero] at e4_2
 obtain rfl := zbI zbv e4_2
 obtain ⟨n4_3, q4_3, e4_3⟩ := f4 3 _ _ rfl rfl
 have w4_3 := (show Tryz.prog.cellsOf 4 = 1 by kernel_rfl)
 replace e4_3 := (show DataW.trod _ _ _ _ _ _ _ 4 (List.take (Tryz.prog.cellsOf 4) (List.drop 3 _)) = some (_, _) from e4_3)
 rw [w4_3] at e4_3
 simp only [List.drop_succ_cons, List.drop_zero, List.take_succ_cons, List.take_zero] at e4_3
 obtain rfl := zbI zbv e4_3
 obtain ⟨n4_4, q4_4, e4_4⟩ := f4 4 _ _ rfl rfl
 have w4_4 := (show Tryz.prog.cellsOf 229 = 1 by kernel_rfl)
 replace e4_4 := (show DataW.trod _ _ _ _ _ _ _ 229 (List.take (Tryz.prog.cellsOf 229) (List.drop 4 _)) = some (_, _) from e4_4)
 rw [w4_4] at e4_4
 simp only [List.drop_succ_cons, List.drop_zero, List.take_succ_cons, List.take_zero] at e4_4
 obtain rfl := func_of_trod (f0 := 272) zeJ (by kernel_rfl) e4_4
 exact hc
set_option maxRecDepth 100000 in
theorem _root_.Go.Proofs.Tryz.asked_laid {W : World} (h : laidMetH Tryz.prog [("postil/stem.kinds", Go.Proofs.YtfpiiheehdedmaaGreatDoor.Rows.laid_postil_stem_kinds), ("postil/vote.asked", Go.Proofs.YtfpiiheehdedmaaGreatDoor.Rows.laid_postil_vote_asked)] W) : Cells (zeR W) 0 0 Tryz.glob0 := by
 obtain ⟨g_, t_, cs_, fuel_, p_, hg, ht, hv, hd⟩ := h.funcs (List.mem_cons_of_mem _ List.mem_cons_self)
 obtain rfl := Option.some.inj ((show Tryz.prog.globalNamed "postil/vote.asked" = some 0 by kernel_rfl).symm.trans hg)
 obtain rfl := Option.some.inj ((show (Tryz.prog.globals[0]?).map (·.type) = some 163 by kernel_rfl).symm.trans ht)
 obtain ⟨hl, hel⟩ := trod_agg_array zed hd
 have hl : cs_.toList.length = 5 := hl.trans (by kernel_rfl)
 have hc := var_cells hg hv (by rw [hl]; decide)
 generalize cs_.toList = l_ at *
 match l_, hl with
 | [c0, c1, c2, c3, c4], _ =>
 obtain ⟨n0, q0, e0⟩ := hel 0 _ rfl
 have u0 := (show Tryz.prog.cellsOf 162 = 1 by kernel_rfl)
 rw [u0] at e0
 simp only [Nat.reduceMul, List.drop_succ_cons, List.drop_zero, List.take_succ_cons, List.take_zero] at e0
 obtain ⟨_, f0⟩ := zcR zcS e0
 obtain ⟨n0_0, q0_0, e0_0⟩ := f0 0 _ _ rfl rfl
 have w0_0 := (show Tryz.prog.cellsOf 160 = 1 by kernel_rfl)
 replace e0_0 := (show DataW.trod _ _ _ _ _ _ _ 160 (List.take (Tryz.prog.cellsOf 160) (List.drop 0 _)) = some (_, _) from e0_0)
 rw [w0_0] at e0_0
 simp only [List.drop_succ_cons, List.drop_zero, List.take_succ_cons, List.take_zero] at e0_0
 obtain rfl := func_of_trod (f0 := 261) zeK (by kernel_rfl) e0_0
 obtain ⟨n1, q1, e1⟩ := hel 1 _ rfl
 have u1 := (show Tryz.prog.cellsOf 162 = 1 by kernel_rfl)
 rw [u1] at e1
 simp only [Nat.reduceMul, List.drop_succ_cons, List.drop_zero, List.take_succ_cons, List.take_zero] at e1
 obtain ⟨_, f1⟩ := zcR zcS e1
 obtain ⟨n1_0, q1_0, e1_0⟩ := f1 0 _ _ rfl rfl
 have w1_0 := (show Tryz.prog.cellsOf 160 = 1 by kernel_rfl)
 replace e1_0 := (show DataW.trod _ _ _ _ _ _ _ 160 (List.take (Tryz.prog.cellsOf 160) (List.drop 0 _)) = some (_, _) from e1_0)
 rw [w1_0] at e1_0
 simp only [List.drop_succ_cons, List.drop_zero, List.take_succ_cons, List.take_zero] at e1_0
 obtain rfl := func_of_trod (f0 := 262) zeK (by kernel_rfl) e1_0
 obtain ⟨n2, q2, e2⟩ := hel 2 _ rfl
 have u2 := (show Tryz.prog.cellsOf 162 = 1 by kernel_rfl)
 rw [u2] at e2
 simp only [Nat.reduceMul, List.drop_succ_cons, List.drop_zero, List.take_succ_cons, List.take_zero] at e2
 obtain ⟨_, f2⟩ := zcR zcS e2
 obtain ⟨n2_0, q2_0, e2_0⟩ := f2 0 _ _ rfl rfl
 have w2_0 := (show Tryz.prog.cellsOf 160 = 1 by kernel_rfl)
 replace e2_0 := (show DataW.trod _ _ _ _ _ _ _ 160 (List.take (Tryz.prog.cellsOf 160) (List.drop 0 _)) = some (_, _) from e2_0)
 rw [w2_0] at e2_0
 simp only [List.drop_succ_cons, List.drop_zero, List.take_succ_cons, List.take_zero] at e2_0
 obtain rfl := func_of_trod (f0 := 263) zeK (by kernel_rfl) e2_0
 obtain ⟨n3, q3, e3⟩ := hel 3 _ rfl
 have u3 := (show Tryz.prog.cellsOf 162 = 1 by kernel_rfl)
 rw [u3] at e3
 simp only [Nat.reduceMul, List.drop_succ_cons, List.drop_zero, List.take_succ_cons, List.take_zero] at e3
 obtain ⟨_, f3⟩ := zcR zcS e3
 obtain ⟨n3_0, q3_0, e3_0⟩ := f3 0 _ _ rfl rfl
 have w3_0 := (show Tryz.prog.cellsOf 160 = 1 by kernel_rfl)
 replace e3_0 := (show DataW.trod _ _ _ _ _ _ _ 160 (List.take (Tryz.prog.cellsOf 160) (List.drop 0 _)) = some (_, _) from e3_0)
 rw [w3_0] at e3_0
 simp only [List.drop_succ_cons, List.drop_zero, List.take_succ_cons, List.take_zero] at e3_0
 obtain rfl := func_of_trod (f0 := 264) zeK (by kernel_rfl) e3_0
 obtain ⟨n4, q4, e4⟩ := hel 4 _ rfl
 have u4 := (show Tryz.prog.cellsOf 162 = 1 by kernel_rfl)
 rw [u4] at e4
 simp only [Nat.reduceMul, List.drop_succ_cons, List.drop_zero, List.take_succ_cons, List.take_zero] at e4
 obtain ⟨_, f4⟩ := zcR zcS e4
 obtain ⟨n4_0, q4_0, e4_0⟩ := f4 0 _ _ rfl rfl
 have w4_0 := (show Tryz.prog.cellsOf 160 = 1 by kernel_rfl)
 replace e4_0 := (show DataW.trod _ _ _ _ _ _ _ 160 (List.take (Tryz.prog.cellsOf 160) (List.drop 0 _)) = some (_, _) from e4_0)
 rw [w4_0] at e4_0
 simp only [List.drop_succ_cons, List.drop_zero, List.take_succ_cons, List.take_zero] at e4_0
 obtain rfl := func_of_trod (f0 := 265) zeK (by kernel_rfl) e4_0
 exact hc
end Go.Pk
