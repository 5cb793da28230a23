/- A PART OF THE PROOF (printed by a program of the author's own): contracts of functions, each walked once. -/
import Derived.Test.YtngmpkoobdkeiaaGreatDoorA07
import Derived.Test.YtngmpkoobdkeiaaGreatDoorA08
namespace Go.Pk
open Go Go.RowKit Go.Proofs
set_option maxRecDepth 4000 in
theorem c_stem_letters_1 {h : Heap} {w : World} (hs : Sub h w) (c : Int) : Calls Tryz.prog 82 #[.int .i32 c] w (Rets h w (fun _ _ res_ => res_ = .bool ((decide (c < 97) || decide (122 < c))))) := by
  refine W.calls (n := 9) (args := [.int .i32 c]) Tryz.func82 rfl rfl rfl ?_
  have st0 : St h w h w [] := St.start hs
  refine W.seq ?_
  refine W.region ?_
  refine OpsL.val rfl rfl (r_asB rfl) ?_
  refine OpsL.nil ?_
  refine Then.norm ?_
  refine W.seq ?_
  refine W.region ?_
  refine OpsL.val rfl rfl (r_mvI rfl) ?_
  refine OpsL.val rfl rfl (r_lss rfl rfl) ?_
  refine OpsL.val rfl rfl (r_mvB rfl) ?_
  refine OpsL.split (d := 5) rfl (fun g1 => ?_) (fun g1 => ?_)
  ·
    replace g1 := of_decide_eq_true g1
    refine OpsL.skipped rfl rfl (d := 5) rfl rfl rfl ?_
    refine OpsL.skipped rfl rfl (d := 5) rfl rfl rfl ?_
    refine OpsL.val rfl rfl (r_pickT (v := (.bool _)) rfl rfl) ?_
    refine OpsL.val rfl rfl (r_asB rfl) ?_
    refine OpsL.nil ?_
    refine Then.norm ?_
    refine W.ret ?_
    -- return r1
    refine Post.ret1 Tryz.results82 ?_
    refine ⟨h, _, rfl, st0.done, ?_⟩
    refine bool_eq ?_
    first | (simp_all; done) | (simp_all; omega)
  ·
    replace g1 := of_decide_eq_false g1
    refine OpsL.guarded rfl rfl (d := 5) rfl ?_
    refine OpsL.val rfl rfl (r_mvI rfl) ?_
    refine OpsL.guarded rfl rfl (d := 5) rfl ?_
    refine OpsL.val rfl rfl (r_gtr rfl rfl) ?_
    refine OpsL.val rfl rfl (r_pickF (v := (.bool _)) rfl rfl) ?_
    refine OpsL.val rfl rfl (r_asB rfl) ?_
    refine OpsL.nil ?_
    refine Then.norm ?_
    refine W.ret ?_
    -- return r2
    refine Post.ret1 Tryz.results82 ?_
    refine ⟨h, _, rfl, st0.done, ?_⟩
    refine bool_eq ?_
    first | (simp_all; done) | (simp_all; omega)
set_option maxRecDepth 4000 in
theorem c_stem_letters {h : Heap} {w : World} (hs : Sub h w) (s : Str) (s_le : s.length ≤ 281474976710656) (lo : Int) : Calls Tryz.prog 41 #[strV s, .int .i64 lo] w (Rets h w (fun _ _ res_ => res_ = .bool (lettersB s lo))) := by
  refine W.calls (n := 15) (args := [strV s, .int .i64 lo]) Tryz.func41 rfl rfl rfl ?_
  have st0 : St h w h w [] := St.start hs
  refine W.seq ?_
  refine W.region ?_
  refine OpsL.val rfl rfl (r_asB rfl) ?_
  refine OpsL.nil ?_
  refine Then.norm ?_
  refine W.seq ?_
  refine W.region ?_
  refine OpsL.val rfl rfl (r_mvI rfl) ?_
  refine OpsL.val rfl rfl (r_mvS rfl) ?_
  refine OpsL.val rfl rfl (r_len_str rfl Tryz.underlying9) ?_
  refine OpsL.sliceF (L := LInt) (xs := [(s.length : Int)]) (cs := [.int .i64 (s.length : Int)]) st0 (Enc.cons (L := LInt) (vs := [.int .i64 (s.length : Int)]) (x := (s.length : Int)) (h := h) (rfl) Enc.nil) rfl rfl rfl Tryz.underlying39 Tryz.info3 rfl rfl rfl (by kernel_rfl) ?_
  intro v1 w2 h5 le6 f3 st4
  refine OpsL.callF st4 rfl rfl rfl Tryz.call50 rfl (c_stem_in st4.sub _ _ f3) ?_
  intro r7 w8 h9 le10 st11 q12
  obtain rfl := q12
  refine OpsL.val rfl rfl (r_mvB rfl) ?_
  refine OpsL.split (d := 10) rfl (fun g13 => ?_) (fun g13 => ?_)
  ·
    refine OpsL.guarded rfl rfl (d := 10) rfl ?_
    refine OpsL.val rfl rfl (r_mvS rfl) ?_
    refine OpsL.guarded rfl rfl (d := 10) rfl ?_
    refine OpsL.callF st11 rfl rfl rfl Tryz.call81 rfl (c_strings_ContainsFunc (s := s) (by first | assumption | (simp [big]; done) | (simp [big]; omega) | omega) (fun x_ : Int => (decide ((x_) < 97) || decide (122 < (x_)))) (by intro x_ hx_; simp; omega) (fun x_ h_ w_ hs_ => c_stem_letters_1 hs_ x_) Tryz.call82 st11.sub) ?_
    intro r14 w15 h16 le17 st18 q19
    obtain rfl := q19
    refine OpsL.guarded rfl rfl (d := 10) rfl ?_
    refine OpsL.val rfl rfl (r_not rfl) ?_
    refine OpsL.val rfl rfl (r_pickT (v := (.bool _)) rfl rfl) ?_
    refine OpsL.val rfl rfl (r_asB rfl) ?_
    refine OpsL.nil ?_
    refine Then.norm ?_
    refine W.ret ?_
    -- return r1
    refine Post.ret1 Tryz.results41 ?_
    refine ⟨h16, _, rfl, st18.done, ?_⟩
    refine bool_eq ?_
    rw [letters_eq]
    simp_all [inAll]
  ·
    refine OpsL.skipped rfl rfl (d := 10) rfl rfl rfl ?_
    refine OpsL.skipped rfl rfl (d := 10) rfl rfl rfl ?_
    refine OpsL.skipped rfl rfl (d := 10) rfl rfl rfl ?_
    refine OpsL.val rfl rfl (r_pickF (v := (.bool _)) rfl rfl) ?_
    refine OpsL.val rfl rfl (r_asB rfl) ?_
    refine OpsL.nil ?_
    refine Then.norm ?_
    refine W.ret ?_
    -- return r2
    refine Post.ret1 Tryz.results41 ?_
    refine ⟨h9, _, rfl, st11.done, ?_⟩
    refine bool_eq ?_
    rw [letters_eq]
    simp_all [inAll]
set_option maxRecDepth 4000 in
theorem c_stem_right {h : Heap} {w : World} (hs : Sub h w) {hd : Head} (hd_l1 : hd.stem.length ≤ 281474976710656) (hd_l2 : 0 ≤ hd.mark ∧ hd.mark ≤ 255) : Calls Tryz.prog 100 #[.agg #[strV hd.stem, .int .u8 hd.mark]] w (Rets h w (fun _ _ res_ => res_ = .bool (headB hd))) := by
  refine W.calls (n := 11) (args := [.agg #[strV hd.stem, .int .u8 hd.mark]]) Tryz.func100 rfl rfl rfl ?_
  have st0 : St h w h w [] := St.start hs
  refine W.seq ?_
  refine W.region ?_
  refine OpsL.boxF st0 (cs := [strV (hd.stem), .int .u8 (hd.mark)]) rfl rfl rfl ?_
  intro b1 w2 h3 le4 hc5 st6
  refine OpsL.val rfl rfl (r_asB rfl) ?_
  refine OpsL.nil ?_
  refine Then.norm ?_
  refine W.seq ?_
  refine W.region ?_
  refine OpsL.val rfl rfl (r_field_addr rfl Tryz.underlying54 rfl Tryz.sizeOf9 rfl) ?_
  refine OpsL.val rfl rfl (r_load_cells1 (j := 0) st6.sub hc5 rfl rfl rfl Tryz.isAgg9) ?_
  refine OpsL.callF st6 rfl rfl rfl Tryz.call41 rfl (c_stem_letters st6.sub _ (by first | assumption | (simp [big]; done) | (simp [big]; omega) | omega) _) ?_
  intro r7 w8 h9 le10 st11 q12
  obtain rfl := q12
  refine OpsL.val rfl rfl (r_mvB rfl) ?_
  refine OpsL.split (d := 6) rfl (fun g13 => ?_) (fun g13 => ?_)
  ·
    refine OpsL.guarded rfl rfl (d := 6) rfl ?_
    refine OpsL.val rfl rfl (r_field_addr rfl Tryz.underlying54 rfl Tryz.sizeOf5 rfl) ?_
    refine OpsL.guarded rfl rfl (d := 6) rfl ?_
    refine OpsL.val rfl rfl (r_load_cells1 (j := 1) st11.sub (hc5.up le10) rfl rfl rfl Tryz.isAgg5) ?_
    refine OpsL.guarded rfl rfl (d := 6) rfl ?_
    refine OpsL.val rfl rfl (r_leq rfl rfl) ?_
    refine OpsL.val rfl rfl (r_pickT (v := (.bool _)) rfl rfl) ?_
    refine OpsL.val rfl rfl (r_asB rfl) ?_
    refine OpsL.nil ?_
    refine Then.norm ?_
    refine W.ret ?_
    -- return r1
    refine Post.ret1 Tryz.results100 ?_
    refine ⟨h9, _, rfl, st11.done, ?_⟩
    refine bool_eq ?_
    rw [head_eq _ (by omega)]
    simp_all
  ·
    refine OpsL.skipped rfl rfl (d := 6) rfl rfl rfl ?_
    refine OpsL.skipped rfl rfl (d := 6) rfl rfl rfl ?_
    refine OpsL.skipped rfl rfl (d := 6) rfl rfl rfl ?_
    refine OpsL.val rfl rfl (r_pickF (v := (.bool _)) rfl rfl) ?_
    refine OpsL.val rfl rfl (r_asB rfl) ?_
    refine OpsL.nil ?_
    refine Then.norm ?_
    refine W.ret ?_
    -- return r2
    refine Post.ret1 Tryz.results100 ?_
    refine ⟨h9, _, rfl, st11.done, ?_⟩
    refine bool_eq ?_
    rw [head_eq _ (by omega)]
    simp_all
end Go.Pk
