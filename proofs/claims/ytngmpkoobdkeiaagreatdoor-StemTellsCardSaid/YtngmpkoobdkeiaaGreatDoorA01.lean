/- A PART OF THE PROOF (printed by a program of the author's own): contracts of functions, each walked once. -/
import Derived.Test.YtngmpkoobdkeiaaGreatDoorSeat
namespace Go.Pk
open Go Go.RowKit Go.Proofs
set_option maxRecDepth 4000 in
theorem c_postilref01_within {h : Heap} {w : World} (hs : Sub h w) (n : Int) (lo : Int) (hi : Int) : Calls Tryz.prog 84 #[.int .i64 n, .int .i64 lo, .int .i64 hi] w (Rets h w (fun _ _ res_ => res_ = .bool (inB n lo hi))) := by
  refine W.calls (n := 15) (args := [.int .i64 n, .int .i64 lo, .int .i64 hi]) Tryz.func84 rfl rfl rfl ?_
  have st0 : St h w h w [] := St.start hs
  refine W.seq ?_
  refine W.region ?_
  refine OpsL.val rfl rfl (r_asB rfl) ?_
  refine OpsL.nil ?_
  refine Then.norm ?_
  refine W.seq ?_
  refine W.region ?_
  refine OpsL.val rfl rfl (r_mvI rfl) ?_
  refine OpsL.val rfl rfl (r_mvI rfl) ?_
  refine OpsL.val rfl rfl (r_geq rfl rfl) ?_
  refine OpsL.val rfl rfl (r_mvB rfl) ?_
  refine OpsL.split (d := 10) rfl (fun g1 => ?_) (fun g1 => ?_)
  ·
    replace g1 := of_decide_eq_true g1
    refine OpsL.guarded rfl rfl (d := 10) rfl ?_
    refine OpsL.val rfl rfl (r_mvI rfl) ?_
    refine OpsL.guarded rfl rfl (d := 10) rfl ?_
    refine OpsL.val rfl rfl (r_mvI rfl) ?_
    refine OpsL.guarded rfl rfl (d := 10) rfl ?_
    refine OpsL.val rfl rfl (r_leq rfl rfl) ?_
    refine OpsL.val rfl rfl (r_pickT (v := (.bool _)) rfl rfl) ?_
    refine OpsL.val rfl rfl (r_asB rfl) ?_
    refine OpsL.nil ?_
    refine Then.norm ?_
    refine W.ret ?_
    -- return r1
    refine Post.ret1 Tryz.results84 ?_
    refine ⟨h, _, rfl, st0.done, ?_⟩
    refine bool_eq ?_
    simp [inB, *]
  ·
    replace g1 := of_decide_eq_false g1
    refine OpsL.skipped rfl rfl (d := 10) rfl rfl rfl ?_
    refine OpsL.skipped rfl rfl (d := 10) rfl rfl rfl ?_
    refine OpsL.skipped rfl rfl (d := 10) rfl rfl rfl ?_
    refine OpsL.val rfl rfl (r_pickF (v := (.bool _)) rfl rfl) ?_
    refine OpsL.val rfl rfl (r_asB rfl) ?_
    refine OpsL.nil ?_
    refine Then.norm ?_
    refine W.ret ?_
    -- return r2
    refine Post.ret1 Tryz.results84 ?_
    refine ⟨h, _, rfl, st0.done, ?_⟩
    refine bool_eq ?_
    simp [inB, *]
set_option maxRecDepth 4000 in
theorem c_postilref04_within {h : Heap} {w : World} (hs : Sub h w) (n : Int) (lo : Int) (hi : Int) : Calls Tryz.prog 115 #[.int .i64 n, .int .i64 lo, .int .i64 hi] w (Rets h w (fun _ _ res_ => res_ = .bool (inB n lo hi))) := by
  refine W.calls (n := 15) (args := [.int .i64 n, .int .i64 lo, .int .i64 hi]) Tryz.func115 rfl rfl rfl ?_
  have st0 : St h w h w [] := St.start hs
  refine W.seq ?_
  refine W.region ?_
  refine OpsL.val rfl rfl (r_asB rfl) ?_
  refine OpsL.nil ?_
  refine Then.norm ?_
  refine W.seq ?_
  refine W.region ?_
  refine OpsL.val rfl rfl (r_mvI rfl) ?_
  refine OpsL.val rfl rfl (r_mvI rfl) ?_
  refine OpsL.val rfl rfl (r_geq rfl rfl) ?_
  refine OpsL.val rfl rfl (r_mvB rfl) ?_
  refine OpsL.split (d := 10) rfl (fun g1 => ?_) (fun g1 => ?_)
  ·
    replace g1 := of_decide_eq_true g1
    refine OpsL.guarded rfl rfl (d := 10) rfl ?_
    refine OpsL.val rfl rfl (r_mvI rfl) ?_
    refine OpsL.guarded rfl rfl (d := 10) rfl ?_
    refine OpsL.val rfl rfl (r_mvI rfl) ?_
    refine OpsL.guarded rfl rfl (d := 10) rfl ?_
    refine OpsL.val rfl rfl (r_leq rfl rfl) ?_
    refine OpsL.val rfl rfl (r_pickT (v := (.bool _)) rfl rfl) ?_
    refine OpsL.val rfl rfl (r_asB rfl) ?_
    refine OpsL.nil ?_
    refine Then.norm ?_
    refine W.ret ?_
    -- return r1
    refine Post.ret1 Tryz.results115 ?_
    refine ⟨h, _, rfl, st0.done, ?_⟩
    refine bool_eq ?_
    simp [inB, *]
  ·
    replace g1 := of_decide_eq_false g1
    refine OpsL.skipped rfl rfl (d := 10) rfl rfl rfl ?_
    refine OpsL.skipped rfl rfl (d := 10) rfl rfl rfl ?_
    refine OpsL.skipped rfl rfl (d := 10) rfl rfl rfl ?_
    refine OpsL.val rfl rfl (r_pickF (v := (.bool _)) rfl rfl) ?_
    refine OpsL.val rfl rfl (r_asB rfl) ?_
    refine OpsL.nil ?_
    refine Then.norm ?_
    refine W.ret ?_
    -- return r2
    refine Post.ret1 Tryz.results115 ?_
    refine ⟨h, _, rfl, st0.done, ?_⟩
    refine bool_eq ?_
    simp [inB, *]
set_option maxRecDepth 4000 in
theorem c_postilref01_Word {h : Heap} {w : World} (hs : Sub h w) (s : Str) (s_le : s.length ≤ 281474976710656) : Calls Tryz.prog 43 #[strV s] w (Rets h w (fun _ _ res_ => res_ = .bool (wordB s))) := by
  refine W.calls (n := 23) (args := [strV s]) Tryz.func43 rfl rfl rfl ?_
  have st0 : St h w h w [] := St.start hs
  refine W.seq ?_
  refine W.region ?_
  refine OpsL.val rfl rfl (r_asB rfl) ?_
  refine OpsL.nil ?_
  refine Then.norm ?_
  refine W.seq ?_
  refine W.seq ?_
  refine W.region ?_
  refine OpsL.val rfl rfl (r_asI rfl) ?_
  refine OpsL.nil ?_
  refine Then.norm ?_
  refine W.block ?_
  refine W.loopI [2, 3, 4, 5, 6, 7, 8, 9, 10, 11, 12, 13, 14, 15, 16, 17, 18, 19] (G := Nat × Heap) (fun ⟨k, h1⟩ => [(3, .int .i64 (k : Int))]) (fun ⟨k, h1⟩ w' => Le h h1 ∧ St h w h1 w' [] ∧ (k ≤ s.length) ∧ ((s.take k).all isL = true)) (fun ⟨k, h1⟩ => s.length - k) ⟨0, h⟩ ⟨rfl, trivial⟩ ⟨Le.refl _, st0, (by first | omega | simp | trivial), (by first | omega | simp | trivial)⟩ ?_
  rintro ⟨k, h1⟩ _ w4 ⟨le2, st3, hk, ht⟩
  refine W.seq ?_
  refine W.seq ?_
  refine W.region ?_
  refine OpsL.val rfl rfl (r_mvI rfl) ?_
  refine OpsL.val rfl rfl (r_mvS rfl) ?_
  refine OpsL.val rfl rfl (r_len_str rfl Tryz.underlying9) ?_
  refine OpsL.val rfl rfl (r_lss rfl rfl) ?_
  refine OpsL.nil ?_
  refine Then.norm ?_
  refine W.cond rfl (fun c5 => ?_) (fun c5 => ?_)
  ·
    replace c5 := of_decide_eq_true c5
    refine W.skip ?_
    refine Then.norm ?_
    refine W.seq ?_
    refine W.block ?_
    refine W.seq ?_
    refine W.region ?_
    refine OpsL.val rfl rfl (r_mvS rfl) ?_
    refine OpsL.val rfl rfl (r_mvI rfl) ?_
    have hy6 : ∃ y, (s)[k]? = some y := ⟨_, List.getElem?_eq_getElem (by omega)⟩
    obtain ⟨y6, hy6⟩ := hy6
    refine OpsL.val rfl rfl (r_index_str rfl rfl (hk := rfl) (hb := hy6) (hu := Tryz.underlying9)) ?_
    refine OpsL.val rfl rfl (r_lss rfl rfl) ?_
    refine OpsL.val rfl rfl (r_mvB rfl) ?_
    refine OpsL.split (d := 14) rfl (fun g7 => ?_) (fun g7 => ?_)
    ·
      replace g7 := of_decide_eq_true g7
      refine OpsL.skipped rfl rfl (d := 14) rfl rfl rfl ?_
      refine OpsL.skipped rfl rfl (d := 14) rfl rfl rfl ?_
      refine OpsL.skipped rfl rfl (d := 14) rfl rfl rfl ?_
      refine OpsL.skipped rfl rfl (d := 14) rfl rfl rfl ?_
      refine OpsL.val rfl rfl (r_pickT (v := (.bool _)) rfl rfl) ?_
      refine OpsL.nil ?_
      refine Then.norm ?_
      refine W.cond rfl (fun c8 => ?_) (fun c8 => ?_)
      ·
        refine W.seq ?_
        refine W.region ?_
        refine OpsL.val rfl rfl (r_asB rfl) ?_
        refine OpsL.nil ?_
        refine Then.norm ?_
        refine W.ret ?_
        refine Blk.ret ?_
        refine Then.ret ?_
        refine Then.ret ?_
        refine Blk.ret ?_
        refine Then.ret ?_
        -- return r1
        refine Post.ret1 Tryz.results43 ?_
        refine ⟨h1, _, rfl, st3.done, ?_⟩
        refine bool_eq ?_
        have hn := not_all (p := isL) (by assumption) (by simp [isL]; omega)
        simp [wordB, lettersB, hn]
      ·
        cases c8
    ·
      replace g7 := of_decide_eq_false g7
      refine OpsL.guarded rfl rfl (d := 14) rfl ?_
      refine OpsL.val rfl rfl (r_mvS rfl) ?_
      refine OpsL.guarded rfl rfl (d := 14) rfl ?_
      refine OpsL.val rfl rfl (r_mvI rfl) ?_
      refine OpsL.guarded rfl rfl (d := 14) rfl ?_
      refine OpsL.val rfl rfl (r_index_str rfl rfl (hk := rfl) (hb := hy6) (hu := Tryz.underlying9)) ?_
      refine OpsL.guarded rfl rfl (d := 14) rfl ?_
      refine OpsL.val rfl rfl (r_gtr rfl rfl) ?_
      refine OpsL.val rfl rfl (r_pickF (v := (.bool _)) rfl rfl) ?_
      refine OpsL.nil ?_
      refine Then.norm ?_
      refine W.cond rfl (fun c9 => ?_) (fun c9 => ?_)
      ·
        replace c9 := of_decide_eq_true c9
        refine W.seq ?_
        refine W.region ?_
        refine OpsL.val rfl rfl (r_asB rfl) ?_
        refine OpsL.nil ?_
        refine Then.norm ?_
        refine W.ret ?_
        refine Blk.ret ?_
        refine Then.ret ?_
        refine Then.ret ?_
        refine Blk.ret ?_
        refine Then.ret ?_
        -- return r2
        refine Post.ret1 Tryz.results43 ?_
        refine ⟨h1, _, rfl, st3.done, ?_⟩
        refine bool_eq ?_
        have hn := not_all (p := isL) (by assumption) (by simp [isL]; omega)
        simp [wordB, lettersB, hn]
      ·
        replace c9 := of_decide_eq_false c9
        refine W.skip ?_
        refine Blk.norm ?_
        refine Then.norm ?_
        refine W.region ?_
        refine OpsL.val rfl rfl (r_mvI rfl) ?_
        refine OpsL.val rfl rfl (r_add rfl rfl (by first | omega | (simp; omega))) ?_
        refine OpsL.val rfl rfl (r_asI rfl) ?_
        refine OpsL.nil ?_
        refine Then.norm ?_
        refine ⟨⟨k + 1, h1⟩, ⟨rfl, trivial⟩, ?_, ⟨le2, st3, ?_, ?_⟩, ?_⟩
        · repeat (first | exact Agree.mix _ _ _ | exact Agree.refl _ _ | refine Agree.updO rfl ?_ | refine Agree.upd rfl ?_ | refine Agree.known rfl ?_ | refine Agree.sub rfl ?_)
        · first | omega | (simp; omega)
        · exact all_take_succ ht (by assumption) (by simp [isL, *]; omega)
        · show s.length - ((k + 1)) < s.length - k
          omega
  ·
    replace c5 := of_decide_eq_false c5
    refine W.exit ?_
    refine Then.exit ?_
    refine Then.exit ?_
    refine Blk.hit ?_
    refine Then.norm ?_
    refine W.seq ?_
    refine W.region ?_
    refine OpsL.val rfl rfl (r_mvS rfl) ?_
    refine OpsL.val rfl rfl (r_len_str rfl Tryz.underlying9) ?_
    refine OpsL.callF st3 rfl rfl rfl Tryz.call84 rfl (c_postilref01_within st3.sub _ _ _) ?_
    intro r10 w11 h12 le13 st14 q15
    obtain rfl := q15
    refine OpsL.val rfl rfl (r_asB rfl) ?_
    refine OpsL.nil ?_
    refine Then.norm ?_
    refine W.ret ?_
    -- return r3
    refine Post.ret1 Tryz.results43 ?_
    refine ⟨h12, _, rfl, st14.done, ?_⟩
    refine bool_eq ?_
    have hn := all_of_take ht (by omega)
    simp [wordB, lettersB, hn]
set_option maxRecDepth 4000 in
theorem c_postilref04_letters {h : Heap} {w : World} (hs : Sub h w) (s : Str) (s_le : s.length ≤ 281474976710656) (lo : Int) : Calls Tryz.prog 139 #[strV s, .int .i64 lo] w (Rets h w (fun _ _ res_ => res_ = .bool (lettersB s lo))) := by
  refine W.calls (n := 26) (args := [strV s, .int .i64 lo]) Tryz.func139 rfl rfl rfl ?_
  have st0 : St h w h w [] := St.start hs
  refine W.seq ?_
  refine W.region ?_
  refine OpsL.val rfl rfl (r_asB rfl) ?_
  refine OpsL.nil ?_
  refine Then.norm ?_
  refine W.seq ?_
  refine W.seq ?_
  refine W.region ?_
  refine OpsL.val rfl rfl (r_asI rfl) ?_
  refine OpsL.nil ?_
  refine Then.norm ?_
  refine W.block ?_
  refine W.loopI [4, 5, 6, 7, 8, 9, 10, 11, 12, 13, 14, 15, 16, 17, 18, 19, 20, 21] (G := Nat × Heap) (fun ⟨k, h1⟩ => [(5, .int .i64 (k : Int))]) (fun ⟨k, h1⟩ w' => Le h h1 ∧ St h w h1 w' [] ∧ (k ≤ s.length) ∧ ((s.take k).all isL = true)) (fun ⟨k, h1⟩ => s.length - k) ⟨0, h⟩ ⟨rfl, trivial⟩ ⟨Le.refl _, st0, (by first | omega | simp | trivial), (by first | omega | simp | trivial)⟩ ?_
  rintro ⟨k, h1⟩ _ w4 ⟨le2, st3, hk, ht⟩
  refine W.seq ?_
  refine W.seq ?_
  refine W.region ?_
  refine OpsL.val rfl rfl (r_mvI rfl) ?_
  refine OpsL.val rfl rfl (r_mvS rfl) ?_
  refine OpsL.val rfl rfl (r_len_str rfl Tryz.underlying9) ?_
  refine OpsL.val rfl rfl (r_lss rfl rfl) ?_
  refine OpsL.nil ?_
  refine Then.norm ?_
  refine W.cond rfl (fun c5 => ?_) (fun c5 => ?_)
  ·
    replace c5 := of_decide_eq_true c5
    refine W.skip ?_
    refine Then.norm ?_
    refine W.seq ?_
    refine W.block ?_
    refine W.seq ?_
    refine W.region ?_
    refine OpsL.val rfl rfl (r_mvS rfl) ?_
    refine OpsL.val rfl rfl (r_mvI rfl) ?_
    have hy6 : ∃ y, (s)[k]? = some y := ⟨_, List.getElem?_eq_getElem (by omega)⟩
    obtain ⟨y6, hy6⟩ := hy6
    refine OpsL.val rfl rfl (r_index_str rfl rfl (hk := rfl) (hb := hy6) (hu := Tryz.underlying9)) ?_
    refine OpsL.val rfl rfl (r_lss rfl rfl) ?_
    refine OpsL.val rfl rfl (r_mvB rfl) ?_
    refine OpsL.split (d := 16) rfl (fun g7 => ?_) (fun g7 => ?_)
    ·
      replace g7 := of_decide_eq_true g7
      refine OpsL.skipped rfl rfl (d := 16) rfl rfl rfl ?_
      refine OpsL.skipped rfl rfl (d := 16) rfl rfl rfl ?_
      refine OpsL.skipped rfl rfl (d := 16) rfl rfl rfl ?_
      refine OpsL.skipped rfl rfl (d := 16) rfl rfl rfl ?_
      refine OpsL.val rfl rfl (r_pickT (v := (.bool _)) rfl rfl) ?_
      refine OpsL.nil ?_
      refine Then.norm ?_
      refine W.cond rfl (fun c8 => ?_) (fun c8 => ?_)
      ·
        refine W.seq ?_
        refine W.region ?_
        refine OpsL.val rfl rfl (r_asB rfl) ?_
        refine OpsL.nil ?_
        refine Then.norm ?_
        refine W.ret ?_
        refine Blk.ret ?_
        refine Then.ret ?_
        refine Then.ret ?_
        refine Blk.ret ?_
        refine Then.ret ?_
        -- return r1
        refine Post.ret1 Tryz.results139 ?_
        refine ⟨h1, _, rfl, st3.done, ?_⟩
        refine bool_eq ?_
        have hn := not_all (p := isL) (by assumption) (by simp [isL]; omega)
        simp [wordB, lettersB, hn]
      ·
        cases c8
    ·
      replace g7 := of_decide_eq_false g7
      refine OpsL.guarded rfl rfl (d := 16) rfl ?_
      refine OpsL.val rfl rfl (r_mvS rfl) ?_
      refine OpsL.guarded rfl rfl (d := 16) rfl ?_
      refine OpsL.val rfl rfl (r_mvI rfl) ?_
      refine OpsL.guarded rfl rfl (d := 16) rfl ?_
      refine OpsL.val rfl rfl (r_index_str rfl rfl (hk := rfl) (hb := hy6) (hu := Tryz.underlying9)) ?_
      refine OpsL.guarded rfl rfl (d := 16) rfl ?_
      refine OpsL.val rfl rfl (r_gtr rfl rfl) ?_
      refine OpsL.val rfl rfl (r_pickF (v := (.bool _)) rfl rfl) ?_
      refine OpsL.nil ?_
      refine Then.norm ?_
      refine W.cond rfl (fun c9 => ?_) (fun c9 => ?_)
      ·
        replace c9 := of_decide_eq_true c9
        refine W.seq ?_
        refine W.region ?_
        refine OpsL.val rfl rfl (r_asB rfl) ?_
        refine OpsL.nil ?_
        refine Then.norm ?_
        refine W.ret ?_
        refine Blk.ret ?_
        refine Then.ret ?_
        refine Then.ret ?_
        refine Blk.ret ?_
        refine Then.ret ?_
        -- return r2
        refine Post.ret1 Tryz.results139 ?_
        refine ⟨h1, _, rfl, st3.done, ?_⟩
        refine bool_eq ?_
        have hn := not_all (p := isL) (by assumption) (by simp [isL]; omega)
        simp [wordB, lettersB, hn]
      ·
        replace c9 := of_decide_eq_false c9
        refine W.skip ?_
        refine Blk.norm ?_
        refine Then.norm ?_
        refine W.region ?_
        refine OpsL.val rfl rfl (r_mvI rfl) ?_
        refine OpsL.val rfl rfl (r_add rfl rfl (by first | omega | (simp; omega))) ?_
        refine OpsL.val rfl rfl (r_asI rfl) ?_
        refine OpsL.nil ?_
        refine Then.norm ?_
        refine ⟨⟨k + 1, h1⟩, ⟨rfl, trivial⟩, ?_, ⟨le2, st3, ?_, ?_⟩, ?_⟩
        · repeat (first | exact Agree.mix _ _ _ | exact Agree.refl _ _ | refine Agree.updO rfl ?_ | refine Agree.upd rfl ?_ | refine Agree.known rfl ?_ | refine Agree.sub rfl ?_)
        · first | omega | (simp; omega)
        · exact all_take_succ ht (by assumption) (by simp [isL, *]; omega)
        · show s.length - ((k + 1)) < s.length - k
          omega
  ·
    replace c5 := of_decide_eq_false c5
    refine W.exit ?_
    refine Then.exit ?_
    refine Then.exit ?_
    refine Blk.hit ?_
    refine Then.norm ?_
    refine W.seq ?_
    refine W.region ?_
    refine OpsL.val rfl rfl (r_mvS rfl) ?_
    refine OpsL.val rfl rfl (r_len_str rfl Tryz.underlying9) ?_
    refine OpsL.val rfl rfl (r_mvI rfl) ?_
    refine OpsL.callF st3 rfl rfl rfl Tryz.call115 rfl (c_postilref04_within st3.sub _ _ _) ?_
    intro r10 w11 h12 le13 st14 q15
    obtain rfl := q15
    refine OpsL.val rfl rfl (r_asB rfl) ?_
    refine OpsL.nil ?_
    refine Then.norm ?_
    refine W.ret ?_
    -- return r3
    refine Post.ret1 Tryz.results139 ?_
    refine ⟨h12, _, rfl, st14.done, ?_⟩
    refine bool_eq ?_
    have hn := all_of_take ht (by omega)
    simp [wordB, lettersB, hn]
set_option maxRecDepth 4000 in
theorem c_postilref04_Rule {h : Heap} {w : World} (hs : Sub h w) {r : Rule} (r_l1 : r.cut.length ≤ 281474976710656) (r_l2 : r.put.length ≤ 281474976710656) : Calls Tryz.prog 102 #[.agg #[strV r.cut, strV r.put, .int .i64 r.least]] w (Rets h w (fun _ _ res_ => res_ = .bool (ruleB r))) := by
  refine W.calls (n := 23) (args := [.agg #[strV r.cut, strV r.put, .int .i64 r.least]]) Tryz.func102 rfl rfl rfl ?_
  have st0 : St h w h w [] := St.start hs
  refine W.seq ?_
  refine W.region ?_
  refine OpsL.boxF st0 (cs := [strV (r.cut), strV (r.put), .int .i64 (r.least)]) rfl rfl rfl ?_
  intro b1 w2 h3 le4 hc5 st6
  refine OpsL.val rfl rfl (r_asB rfl) ?_
  refine OpsL.nil ?_
  refine Then.norm ?_
  refine W.seq ?_
  refine W.region ?_
  refine OpsL.val rfl rfl (r_field_addr rfl Tryz.underlying70 rfl Tryz.sizeOf9 rfl) ?_
  refine OpsL.val rfl rfl (r_load_cells1 (j := 0) st6.sub hc5 rfl rfl rfl Tryz.isAgg9) ?_
  refine OpsL.callF st6 rfl rfl rfl Tryz.call139 rfl (c_postilref04_letters st6.sub _ (by first | assumption | (simp [big]; done) | (simp [big]; omega) | omega) _) ?_
  intro r7 w8 h9 le10 st11 q12
  obtain rfl := q12
  refine OpsL.val rfl rfl (r_mvB rfl) ?_
  refine OpsL.split (d := 6) rfl (fun g13 => ?_) (fun g13 => ?_)
  ·
    refine OpsL.guarded rfl rfl (d := 6) rfl ?_
    refine OpsL.val rfl rfl (r_field_addr rfl Tryz.underlying70 rfl Tryz.sizeOf9 rfl) ?_
    refine OpsL.guarded rfl rfl (d := 6) rfl ?_
    refine OpsL.val rfl rfl (r_load_cells1 (j := 1) st11.sub (hc5.up le10) rfl rfl rfl Tryz.isAgg9) ?_
    refine OpsL.guarded rfl rfl (d := 6) rfl ?_
    refine OpsL.callF st11 rfl rfl rfl Tryz.call139 rfl (c_postilref04_letters st11.sub _ (by first | assumption | (simp [big]; done) | (simp [big]; omega) | omega) _) ?_
    intro r14 w15 h16 le17 st18 q19
    obtain rfl := q19
    refine OpsL.val rfl rfl (r_pickT (v := (.bool _)) rfl rfl) ?_
    refine OpsL.val rfl rfl (r_mvB rfl) ?_
    refine OpsL.split (d := 11) rfl (fun g20 => ?_) (fun g20 => ?_)
    ·
      refine OpsL.guarded rfl rfl (d := 11) rfl ?_
      refine OpsL.val rfl rfl (r_field_addr rfl Tryz.underlying70 rfl Tryz.sizeOf9 rfl) ?_
      refine OpsL.guarded rfl rfl (d := 11) rfl ?_
      refine OpsL.val rfl rfl (r_load_cells1 (j := 0) st18.sub (hc5.up (le10.trans le17)) rfl rfl rfl Tryz.isAgg9) ?_
      refine OpsL.guarded rfl rfl (d := 11) rfl ?_
      refine OpsL.val rfl rfl (r_field_addr rfl Tryz.underlying70 rfl Tryz.sizeOf9 rfl) ?_
      refine OpsL.guarded rfl rfl (d := 11) rfl ?_
      refine OpsL.val rfl rfl (r_load_cells1 (j := 1) st18.sub (hc5.up (le10.trans le17)) rfl rfl rfl Tryz.isAgg9) ?_
      refine OpsL.guarded rfl rfl (d := 11) rfl ?_
      refine OpsL.val rfl rfl (r_sneq rfl rfl) ?_
      refine OpsL.val rfl rfl (r_pickT (v := (.bool _)) rfl rfl) ?_
      refine OpsL.val rfl rfl (r_mvB rfl) ?_
      refine OpsL.split (d := 18) rfl (fun g21 => ?_) (fun g21 => ?_)
      ·
        replace g21 := of_decide_eq_true g21
        refine OpsL.guarded rfl rfl (d := 18) rfl ?_
        refine OpsL.val rfl rfl (r_field_addr rfl Tryz.underlying70 rfl Tryz.sizeOf3 rfl) ?_
        refine OpsL.guarded rfl rfl (d := 18) rfl ?_
        refine OpsL.val rfl rfl (r_load_cells1 (j := 2) st18.sub (hc5.up (le10.trans le17)) rfl rfl rfl Tryz.isAgg3) ?_
        refine OpsL.guarded rfl rfl (d := 18) rfl ?_
        refine OpsL.callF st18 rfl rfl rfl Tryz.call115 rfl (c_postilref04_within st18.sub _ _ _) ?_
        intro r22 w23 h24 le25 st26 q27
        obtain rfl := q27
        refine OpsL.val rfl rfl (r_pickT (v := (.bool _)) rfl rfl) ?_
        refine OpsL.val rfl rfl (r_asB rfl) ?_
        refine OpsL.nil ?_
        refine Then.norm ?_
        refine W.ret ?_
        -- return r1
        refine Post.ret1 Tryz.results102 ?_
        refine ⟨h24, _, rfl, st26.done, ?_⟩
        refine bool_eq ?_
        simp_all [ruleB]
      ·
        replace g21 := of_decide_eq_false g21
        refine OpsL.skipped rfl rfl (d := 18) rfl rfl rfl ?_
        refine OpsL.skipped rfl rfl (d := 18) rfl rfl rfl ?_
        refine OpsL.skipped rfl rfl (d := 18) rfl rfl rfl ?_
        refine OpsL.val rfl rfl (r_pickF (v := (.bool _)) rfl rfl) ?_
        refine OpsL.val rfl rfl (r_asB rfl) ?_
        refine OpsL.nil ?_
        refine Then.norm ?_
        refine W.ret ?_
        -- return r2
        refine Post.ret1 Tryz.results102 ?_
        refine ⟨h16, _, rfl, st18.done, ?_⟩
        refine bool_eq ?_
        simp_all [ruleB]
    ·
      refine OpsL.skipped rfl rfl (d := 11) rfl rfl rfl ?_
      refine OpsL.skipped rfl rfl (d := 11) rfl rfl rfl ?_
      refine OpsL.skipped rfl rfl (d := 11) rfl rfl rfl ?_
      refine OpsL.skipped rfl rfl (d := 11) rfl rfl rfl ?_
      refine OpsL.skipped rfl rfl (d := 11) rfl rfl rfl ?_
      refine OpsL.val rfl rfl (r_pickF (v := (.bool _)) rfl rfl) ?_
      refine OpsL.val rfl rfl (r_mvB rfl) ?_
      refine OpsL.skipped rfl rfl (d := 18) rfl rfl rfl ?_
      refine OpsL.skipped rfl rfl (d := 18) rfl rfl rfl ?_
      refine OpsL.skipped rfl rfl (d := 18) rfl rfl rfl ?_
      refine OpsL.val rfl rfl (r_pickF (v := (.bool _)) rfl rfl) ?_
      refine OpsL.val rfl rfl (r_asB rfl) ?_
      refine OpsL.nil ?_
      refine Then.norm ?_
      refine W.ret ?_
      -- return r3
      refine Post.ret1 Tryz.results102 ?_
      refine ⟨h16, _, rfl, st18.done, ?_⟩
      refine bool_eq ?_
      simp_all [ruleB]
  ·
    refine OpsL.skipped rfl rfl (d := 6) rfl rfl rfl ?_
    refine OpsL.skipped rfl rfl (d := 6) rfl rfl rfl ?_
    refine OpsL.skipped rfl rfl (d := 6) rfl rfl rfl ?_
    refine OpsL.val rfl rfl (r_pickF (v := (.bool _)) rfl rfl) ?_
    refine OpsL.val rfl rfl (r_mvB rfl) ?_
    refine OpsL.skipped rfl rfl (d := 11) rfl rfl rfl ?_
    refine OpsL.skipped rfl rfl (d := 11) rfl rfl rfl ?_
    refine OpsL.skipped rfl rfl (d := 11) rfl rfl rfl ?_
    refine OpsL.skipped rfl rfl (d := 11) rfl rfl rfl ?_
    refine OpsL.skipped rfl rfl (d := 11) rfl rfl rfl ?_
    refine OpsL.val rfl rfl (r_pickF (v := (.bool _)) rfl rfl) ?_
    refine OpsL.val rfl rfl (r_mvB rfl) ?_
    refine OpsL.skipped rfl rfl (d := 18) rfl rfl rfl ?_
    refine OpsL.skipped rfl rfl (d := 18) rfl rfl rfl ?_
    refine OpsL.skipped rfl rfl (d := 18) rfl rfl rfl ?_
    refine OpsL.val rfl rfl (r_pickF (v := (.bool _)) rfl rfl) ?_
    refine OpsL.val rfl rfl (r_asB rfl) ?_
    refine OpsL.nil ?_
    refine Then.norm ?_
    refine W.ret ?_
    -- return r4
    refine Post.ret1 Tryz.results102 ?_
    refine ⟨h9, _, rfl, st11.done, ?_⟩
    refine bool_eq ?_
    simp_all [ruleB]
set_option maxRecDepth 4000 in
theorem c_postilref04_Head {h : Heap} {w : World} (hs : Sub h w) {hd : Head} (hd_l1 : hd.stem.length ≤ 281474976710656) (hd_l2 : 0 ≤ hd.mark ∧ hd.mark ≤ 255) : Calls Tryz.prog 80 #[.agg #[strV hd.stem, .int .u8 hd.mark]] w (Rets h w (fun _ _ res_ => res_ = .bool (headB hd))) := by
  refine W.calls (n := 12) (args := [.agg #[strV hd.stem, .int .u8 hd.mark]]) Tryz.func80 rfl rfl rfl ?_
  have st0 : St h w h w [] := St.start hs
  refine W.seq ?_
  refine W.region ?_
  refine OpsL.boxF st0 (cs := [strV (hd.stem), .int .u8 (hd.mark)]) rfl rfl rfl ?_
  intro b1 w2 h3 le4 hc5 st6
  refine OpsL.val rfl rfl (r_asB rfl) ?_
  refine OpsL.nil ?_
  refine Then.norm ?_
  refine W.seq ?_
  refine W.region ?_
  refine OpsL.val rfl rfl (r_field_addr rfl Tryz.underlying54 rfl Tryz.sizeOf9 rfl) ?_
  refine OpsL.val rfl rfl (r_load_cells1 (j := 0) st6.sub hc5 rfl rfl rfl Tryz.isAgg9) ?_
  refine OpsL.callF st6 rfl rfl rfl Tryz.call43 rfl (c_postilref01_Word st6.sub _ (by first | assumption | (simp [big]; done) | (simp [big]; omega) | omega)) ?_
  intro r7 w8 h9 le10 st11 q12
  obtain rfl := q12
  refine OpsL.val rfl rfl (r_mvB rfl) ?_
  refine OpsL.split (d := 6) rfl (fun g13 => ?_) (fun g13 => ?_)
  ·
    refine OpsL.guarded rfl rfl (d := 6) rfl ?_
    refine OpsL.val rfl rfl (r_field_addr rfl Tryz.underlying54 rfl Tryz.sizeOf5 rfl) ?_
    refine OpsL.guarded rfl rfl (d := 6) rfl ?_
    refine OpsL.val rfl rfl (r_load_cells1 (j := 1) st11.sub (hc5.up le10) rfl rfl rfl Tryz.isAgg5) ?_
    refine OpsL.guarded rfl rfl (d := 6) rfl ?_
    refine OpsL.val rfl rfl (r_conv_int rfl rfl Tryz.underlying3 (IntWalk.i64_in _ (by omega))) ?_
    refine OpsL.guarded rfl rfl (d := 6) rfl ?_
    refine OpsL.callF st11 rfl rfl rfl Tryz.call115 rfl (c_postilref04_within st11.sub _ _ _) ?_
    intro r14 w15 h16 le17 st18 q19
    obtain rfl := q19
    refine OpsL.val rfl rfl (r_pickT (v := (.bool _)) rfl rfl) ?_
    refine OpsL.val rfl rfl (r_asB rfl) ?_
    refine OpsL.nil ?_
    refine Then.norm ?_
    refine W.ret ?_
    -- return r1
    refine Post.ret1 Tryz.results80 ?_
    refine ⟨h16, _, rfl, st18.done, ?_⟩
    refine bool_eq ?_
    simp_all [headB]
  ·
    refine OpsL.skipped rfl rfl (d := 6) rfl rfl rfl ?_
    refine OpsL.skipped rfl rfl (d := 6) rfl rfl rfl ?_
    refine OpsL.skipped rfl rfl (d := 6) rfl rfl rfl ?_
    refine OpsL.skipped rfl rfl (d := 6) rfl rfl rfl ?_
    refine OpsL.val rfl rfl (r_pickF (v := (.bool _)) rfl rfl) ?_
    refine OpsL.val rfl rfl (r_asB rfl) ?_
    refine OpsL.nil ?_
    refine Then.norm ?_
    refine W.ret ?_
    -- return r2
    refine Post.ret1 Tryz.results80 ?_
    refine ⟨h9, _, rfl, st11.done, ?_⟩
    refine bool_eq ?_
    simp_all [headB]
set_option maxRecDepth 4000 in
theorem c_postilref01_Before {h : Heap} {w : World} (hs : Sub h w) {a : Place} {b : Place} : Calls Tryz.prog 159 #[.agg #[.int .i64 a.chapter, .int .i64 a.line, .int .i64 a.word], .agg #[.int .i64 b.chapter, .int .i64 b.line, .int .i64 b.word]] w (Rets h w (fun _ _ res_ => res_ = .bool (beforeB a b))) := by
  refine W.calls (n := 30) (args := [.agg #[.int .i64 a.chapter, .int .i64 a.line, .int .i64 a.word], .agg #[.int .i64 b.chapter, .int .i64 b.line, .int .i64 b.word]]) Tryz.func159 rfl rfl rfl ?_
  have st0 : St h w h w [] := St.start hs
  refine W.seq ?_
  refine W.region ?_
  refine OpsL.boxF st0 (cs := [.int .i64 (a.chapter), .int .i64 (a.line), .int .i64 (a.word)]) rfl rfl rfl ?_
  intro b1 w2 h3 le4 hc5 st6
  refine OpsL.boxF st6 (cs := [.int .i64 (b.chapter), .int .i64 (b.line), .int .i64 (b.word)]) rfl rfl rfl ?_
  intro b7 w8 h9 le10 hc11 st12
  refine OpsL.val rfl rfl (r_asB rfl) ?_
  refine OpsL.nil ?_
  refine Then.norm ?_
  refine W.seq ?_
  refine W.seq ?_
  refine W.region ?_
  refine OpsL.val rfl rfl (r_field_addr rfl Tryz.underlying52 rfl Tryz.sizeOf3 rfl) ?_
  refine OpsL.val rfl rfl (r_load_cells1 (j := 0) st12.sub (hc5.up le10) rfl rfl rfl Tryz.isAgg3) ?_
  refine OpsL.val rfl rfl (r_field_addr rfl Tryz.underlying52 rfl Tryz.sizeOf3 rfl) ?_
  refine OpsL.val rfl rfl (r_load_cells1 (j := 0) st12.sub hc11 rfl rfl rfl Tryz.isAgg3) ?_
  refine OpsL.val rfl rfl (r_neq rfl rfl) ?_
  refine OpsL.nil ?_
  refine Then.norm ?_
  refine W.cond rfl (fun c13 => ?_) (fun c13 => ?_)
  ·
    replace c13 := of_decide_eq_true c13
    refine W.seq ?_
    refine W.region ?_
    refine OpsL.val rfl rfl (r_field_addr rfl Tryz.underlying52 rfl Tryz.sizeOf3 rfl) ?_
    refine OpsL.val rfl rfl (r_load_cells1 (j := 0) st12.sub (hc5.up le10) rfl rfl rfl Tryz.isAgg3) ?_
    refine OpsL.val rfl rfl (r_field_addr rfl Tryz.underlying52 rfl Tryz.sizeOf3 rfl) ?_
    refine OpsL.val rfl rfl (r_load_cells1 (j := 0) st12.sub hc11 rfl rfl rfl Tryz.isAgg3) ?_
    refine OpsL.val rfl rfl (r_lss rfl rfl) ?_
    refine OpsL.val rfl rfl (r_asB rfl) ?_
    refine OpsL.nil ?_
    refine Then.norm ?_
    refine W.ret ?_
    refine Then.ret ?_
    -- return r1
    refine Post.ret1 Tryz.results159 ?_
    refine ⟨h9, _, rfl, st12.done, ?_⟩
    refine bool_eq ?_
    simp_all [beforeB]
  ·
    replace c13 := of_decide_eq_false c13
    refine W.skip ?_
    refine Then.norm ?_
    refine W.seq ?_
    refine W.seq ?_
    refine W.region ?_
    refine OpsL.val rfl rfl (r_field_addr rfl Tryz.underlying52 rfl Tryz.sizeOf3 rfl) ?_
    refine OpsL.val rfl rfl (r_load_cells1 (j := 1) st12.sub (hc5.up le10) rfl rfl rfl Tryz.isAgg3) ?_
    refine OpsL.val rfl rfl (r_field_addr rfl Tryz.underlying52 rfl Tryz.sizeOf3 rfl) ?_
    refine OpsL.val rfl rfl (r_load_cells1 (j := 1) st12.sub hc11 rfl rfl rfl Tryz.isAgg3) ?_
    refine OpsL.val rfl rfl (r_neq rfl rfl) ?_
    refine OpsL.nil ?_
    refine Then.norm ?_
    refine W.cond rfl (fun c14 => ?_) (fun c14 => ?_)
    ·
      replace c14 := of_decide_eq_true c14
      refine W.seq ?_
      refine W.region ?_
      refine OpsL.val rfl rfl (r_field_addr rfl Tryz.underlying52 rfl Tryz.sizeOf3 rfl) ?_
      refine OpsL.val rfl rfl (r_load_cells1 (j := 1) st12.sub (hc5.up le10) rfl rfl rfl Tryz.isAgg3) ?_
      refine OpsL.val rfl rfl (r_field_addr rfl Tryz.underlying52 rfl Tryz.sizeOf3 rfl) ?_
      refine OpsL.val rfl rfl (r_load_cells1 (j := 1) st12.sub hc11 rfl rfl rfl Tryz.isAgg3) ?_
      refine OpsL.val rfl rfl (r_lss rfl rfl) ?_
      refine OpsL.val rfl rfl (r_asB rfl) ?_
      refine OpsL.nil ?_
      refine Then.norm ?_
      refine W.ret ?_
      refine Then.ret ?_
      -- return r2
      refine Post.ret1 Tryz.results159 ?_
      refine ⟨h9, _, rfl, st12.done, ?_⟩
      refine bool_eq ?_
      simp_all [beforeB]
    ·
      replace c14 := of_decide_eq_false c14
      refine W.skip ?_
      refine Then.norm ?_
      refine W.seq ?_
      refine W.region ?_
      refine OpsL.val rfl rfl (r_field_addr rfl Tryz.underlying52 rfl Tryz.sizeOf3 rfl) ?_
      refine OpsL.val rfl rfl (r_load_cells1 (j := 2) st12.sub (hc5.up le10) rfl rfl rfl Tryz.isAgg3) ?_
      refine OpsL.val rfl rfl (r_field_addr rfl Tryz.underlying52 rfl Tryz.sizeOf3 rfl) ?_
      refine OpsL.val rfl rfl (r_load_cells1 (j := 2) st12.sub hc11 rfl rfl rfl Tryz.isAgg3) ?_
      refine OpsL.val rfl rfl (r_lss rfl rfl) ?_
      refine OpsL.val rfl rfl (r_asB rfl) ?_
      refine OpsL.nil ?_
      refine Then.norm ?_
      refine W.ret ?_
      -- return r3
      refine Post.ret1 Tryz.results159 ?_
      refine ⟨h9, _, rfl, st12.done, ?_⟩
      refine bool_eq ?_
      simp_all [beforeB]
end Go.Pk
