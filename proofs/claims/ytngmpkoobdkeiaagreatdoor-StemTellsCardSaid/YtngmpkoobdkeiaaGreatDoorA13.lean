/- A PART OF THE PROOF (printed by a program of the author's own): contracts of functions, each walked once. -/
import Derived.Test.YtngmpkoobdkeiaaGreatDoorSeat
import Derived.Test.YtngmpkoobdkeiaaGreatDoorMap2
import Derived.Test.YtngmpkoobdkeiaaGreatDoorSort
import Derived.Test.YtngmpkoobdkeiaaGreatDoorShelf
import Derived.Test.YtngmpkoobdkeiaaGreatDoorSpec3
namespace Go.Pk
open Go Go.RowKit Go.Proofs
set_option maxRecDepth 4000 in
theorem c_slices_Clone_Lapi_Decision_api_Decision {h : Heap} {w : World} (hs : Sub h w) {s_v : Value} {s : (List Decision)} (s_f : Sl LDecision h s_v s) (hl : s.length * 88 ≤ 140737488355328) : Calls Tryz.prog 64 #[s_v] w (fun e_ w' => ∃ h' res_ o_, e_ = .returned res_ ∧ Le h h' ∧ St h w h' w' [o_] ∧ OSl LDecision 56 h' res_ (s) o_) := by
  refine W.calls (n := 8) (args := [s_v]) Tryz.func64 rfl rfl rfl ?_
  have st0 : St h w h w [] := St.start hs
  have s_f_b := s_f.le
  refine W.seq ?_
  refine W.region ?_
  refine OpsL.val rfl rfl (r_asL rfl) ?_
  refine OpsL.nil ?_
  refine Then.norm ?_
  refine W.seq ?_
  refine W.seq ?_
  refine W.region ?_
  refine OpsL.val rfl rfl (r_move (v := s_v) rfl) ?_
  obtain ⟨nb1, hn2, hn2_r⟩ := Sl.nilb (P := Tryz.prog) s_f
  refine OpsL.val rfl rfl (hn2_r Tryz.underlying26 rfl rfl) ?_
  refine OpsL.nil ?_
  refine Then.norm ?_
  refine W.cond rfl (fun c3 => ?_) (fun c3 => ?_)
  ·
    refine W.seq ?_
    refine W.region ?_
    refine OpsL.val rfl rfl (r_asL rfl) ?_
    refine OpsL.nil ?_
    refine Then.norm ?_
    refine W.ret ?_
    refine Then.ret ?_
    -- return r1
    refine Post.ret1 Tryz.results64 ?_
    have st4 := st0.snoc
    have f5 := OSl.nil LDecision 56 h
    refine ⟨h, _, _, rfl, Le.refl _, st4, OSl.to f5 ?_⟩
    simp_all
  ·
    refine W.skip ?_
    refine Then.norm ?_
    refine W.seq ?_
    refine W.region ?_
    refine OpsL.sliceE (L := LDecision) st0 rfl ⟨_, Tryz.sizeOf56⟩ Tryz.underlying26 ?_
    intro v6 o7 w8 f9 st10
    refine OpsL.val rfl rfl (r_move (v := s_v) rfl) ?_
    refine OpsL.append (k := 0) (nb := 88) st10 f9 rfl s_f rfl rfl rfl Tryz.underlying26 Tryz.info56 rfl rfl rfl (by decide) rfl (by first | omega | (simp; omega)) (by first | omega | (simp; omega)) ?_
    intro v11 o12 w13 _ e14 f15 st16
    subst e14
    refine OpsL.val rfl rfl (r_assign (v := v11) rfl) ?_
    refine OpsL.nil ?_
    refine Then.norm ?_
    refine W.ret ?_
    -- return r2
    refine Post.ret1 Tryz.results64 ?_
    refine ⟨h, _, _, rfl, Le.refl _, st16, OSl.to f15 ?_⟩
    simp
set_option maxRecDepth 4000 in
theorem c_slices_Clone_Lapi_Rule_api_Rule {h : Heap} {w : World} (hs : Sub h w) {s_v : Value} {s : (List Rule)} (s_f : Sl LRule h s_v s) (hl : s.length * 40 ≤ 140737488355328) : Calls Tryz.prog 68 #[s_v] w (fun e_ w' => ∃ h' res_ o_, e_ = .returned res_ ∧ Le h h' ∧ St h w h' w' [o_] ∧ OSl LRule 70 h' res_ (s) o_) := by
  refine W.calls (n := 8) (args := [s_v]) Tryz.func68 rfl rfl rfl ?_
  have st0 : St h w h w [] := St.start hs
  have s_f_b := s_f.le
  refine W.seq ?_
  refine W.region ?_
  refine OpsL.val rfl rfl (r_asL rfl) ?_
  refine OpsL.nil ?_
  refine Then.norm ?_
  refine W.seq ?_
  refine W.seq ?_
  refine W.region ?_
  refine OpsL.val rfl rfl (r_move (v := s_v) rfl) ?_
  obtain ⟨nb1, hn2, hn2_r⟩ := Sl.nilb (P := Tryz.prog) s_f
  refine OpsL.val rfl rfl (hn2_r Tryz.underlying25 rfl rfl) ?_
  refine OpsL.nil ?_
  refine Then.norm ?_
  refine W.cond rfl (fun c3 => ?_) (fun c3 => ?_)
  ·
    refine W.seq ?_
    refine W.region ?_
    refine OpsL.val rfl rfl (r_asL rfl) ?_
    refine OpsL.nil ?_
    refine Then.norm ?_
    refine W.ret ?_
    refine Then.ret ?_
    -- return r1
    refine Post.ret1 Tryz.results68 ?_
    have st4 := st0.snoc
    have f5 := OSl.nil LRule 70 h
    refine ⟨h, _, _, rfl, Le.refl _, st4, OSl.to f5 ?_⟩
    simp_all
  ·
    refine W.skip ?_
    refine Then.norm ?_
    refine W.seq ?_
    refine W.region ?_
    refine OpsL.sliceE (L := LRule) st0 rfl ⟨_, Tryz.sizeOf70⟩ Tryz.underlying25 ?_
    intro v6 o7 w8 f9 st10
    refine OpsL.val rfl rfl (r_move (v := s_v) rfl) ?_
    refine OpsL.append (k := 0) (nb := 40) st10 f9 rfl s_f rfl rfl rfl Tryz.underlying25 Tryz.info70 rfl rfl rfl (by decide) rfl (by first | omega | (simp; omega)) (by first | omega | (simp; omega)) ?_
    intro v11 o12 w13 _ e14 f15 st16
    subst e14
    refine OpsL.val rfl rfl (r_assign (v := v11) rfl) ?_
    refine OpsL.nil ?_
    refine Then.norm ?_
    refine W.ret ?_
    -- return r2
    refine Post.ret1 Tryz.results68 ?_
    refine ⟨h, _, _, rfl, Le.refl _, st16, OSl.to f15 ?_⟩
    simp
end Go.Pk
