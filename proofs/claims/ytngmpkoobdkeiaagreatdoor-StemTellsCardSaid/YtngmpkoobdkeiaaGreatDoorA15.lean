/- A PART OF THE PROOF (printed by a program of the author's own): contracts of functions, each walked once. -/
import Derived.Test.YtngmpkoobdkeiaaGreatDoorA12
import Derived.Test.YtngmpkoobdkeiaaGreatDoorA14
namespace Go.Pk
open Go Go.RowKit Go.Proofs
set_option maxRecDepth 4000 in
theorem c_stem_open {h : Heap} {w : World} (hs : Sub h w) {t : Text} {t_v0 : Value} (t_f0 : Sl LChapter h t_v0 t.chapters) {x : Lexicon} {x_v0 : Value} (x_f0 : Sl LRule h x_v0 x.rules) {x_v1 : Value} (x_f1 : Sl LDecision h x_v1 x.decisions) (K0 : Cells h 0 0 Tryz.glob0) : Calls Tryz.prog 40 #[.agg #[t_v0], .agg #[x_v0, x_v1]] w (Rets h w (fun h' _ res_ => ∃ u0, res_ = .tuple #[u0, .int .i64 (checkN t x)] ∧ Box LOffice h' (decide (checkN t x = 0)) (Office.mk x t (standM x)) u0)) := by
  refine W.calls (n := 16) (args := [.agg #[t_v0], .agg #[x_v0, x_v1]]) Tryz.func40 rfl rfl rfl ?_
  have st0 : St h w h w [] := St.start hs
  have t_f0_b := t_f0.le
  have x_f0_b := x_f0.le
  have x_f1_b := x_f1.le
  refine W.seq ?_
  refine W.region ?_
  refine OpsL.boxF st0 (cs := [t_v0]) rfl rfl rfl ?_
  intro b1 w2 h3 le4 hc5 st6
  refine OpsL.boxF st6 (cs := [x_v0, x_v1]) rfl rfl rfl ?_
  intro b7 w8 h9 le10 hc11 st12
  refine OpsL.val rfl rfl (r_assign rfl) ?_
  refine OpsL.val rfl rfl (r_asI rfl) ?_
  refine OpsL.nil ?_
  refine Then.norm ?_
  refine W.seq ?_
  refine W.seq ?_
  refine W.region ?_
  refine OpsL.val rfl rfl (r_load_call st12.sub (hc5.up le10) rfl Tryz.isAgg24 Tryz.sizeOf24 rfl) ?_
  refine OpsL.val rfl rfl (r_load_call st12.sub hc11 rfl Tryz.isAgg28 Tryz.sizeOf28 rfl) ?_
  refine OpsL.callF st12 rfl rfl rfl Tryz.call14 rfl (c_stem_Check st12.sub (t := t) (t_f0.up (le4.trans le10)) (x := x) (x_f0.up (le4.trans le10)) (x_f1.up (le4.trans le10)) (K0.up (le4.trans le10))) ?_
  intro r13 w14 h15 le16 st17 q18
  obtain rfl := q18
  refine OpsL.val rfl rfl (r_asI rfl) ?_
  refine OpsL.nil ?_
  refine Then.norm ?_
  refine W.seq ?_
  refine W.region ?_
  refine OpsL.val rfl rfl (r_mvI rfl) ?_
  refine OpsL.val rfl rfl (r_neq rfl rfl) ?_
  refine OpsL.nil ?_
  refine Then.norm ?_
  refine W.cond rfl (fun c19 => ?_) (fun c19 => ?_)
  ·
    replace c19 := of_decide_eq_true c19
    refine W.seq ?_
    refine W.region ?_
    refine OpsL.val rfl rfl (r_mvI rfl) ?_
    refine OpsL.val rfl rfl (r_assign rfl) ?_
    refine OpsL.val rfl rfl (r_asI rfl) ?_
    refine OpsL.nil ?_
    refine Then.norm ?_
    refine W.ret ?_
    refine Then.ret ?_
    -- return r1
    refine Post.ret2 Tryz.results40 ?_
    refine ⟨h15, _, rfl, st17.done, ?_⟩
    refine ⟨_, tup2 rfl (int_eq ?_), Box.nil ?_⟩
    · rfl
    · simpa using c19
  ·
    replace c19 := of_decide_eq_false c19
    refine W.skip ?_
    refine Then.norm ?_
    refine W.seq ?_
    refine W.region ?_
    refine OpsL.val rfl rfl (r_load_call st17.sub (hc5.up (le10.trans le16)) rfl Tryz.isAgg24 Tryz.sizeOf24 rfl) ?_
    refine OpsL.val rfl rfl (r_load_call st17.sub (hc11.up le16) rfl Tryz.isAgg28 Tryz.sizeOf28 rfl) ?_
    refine OpsL.callF st17 rfl rfl rfl Tryz.call66 rfl (c_stem_opened st17.sub (t := t) (t_f0.up ((le4.trans le10).trans le16)) (x := x) (x_f0.up ((le4.trans le10).trans le16)) (x_f1.up ((le4.trans le10).trans le16)) (by exact okD_of (by simpa using c19)) (by have q := lexicon_20 (show checkN t x = 0 by simpa using c19); omega)) ?_
    intro r20 w21 h22 le23 st24 q25
    obtain ⟨v26, rfl, f27⟩ := q25
    obtain ⟨b28, vs29, rfl, hc30, hr31⟩ := f27
    obtain ⟨v32, v34, v36, v38, rfl, f33, f35, f37, lm39⟩ := hr31
    have f33_b := f33.le
    have f35_b := f35.le
    have f37_b := f37.le
    refine OpsL.val rfl rfl (r_asP rfl) ?_
    refine OpsL.val rfl rfl (r_asI rfl) ?_
    refine OpsL.nil ?_
    refine Then.norm ?_
    refine W.ret ?_
    -- return r2
    refine Post.ret2 Tryz.results40 ?_
    refine ⟨h22, _, rfl, st24.done, ?_⟩
    refine ⟨_, tup2 rfl (int_eq ?_), Box.some ?_ hc30 ⟨_, _, _, _, rfl, f33, f35, f37, lm39⟩⟩
    · exact (by simpa using c19 : checkN t x = 0).symm
    · simpa using c19
end Go.Pk
