/- A PART OF THE PROOF (printed by a program of the author's own): contracts of functions, each walked once. -/
import Derived.Test.YtngmpkoobdkeiaaGreatDoorA04
namespace Go.Pk
open Go Go.RowKit Go.Proofs
set_option maxRecDepth 4000 in
theorem c_leaf_in_1 {h : Heap} {w : World} (hs : Sub h w) (n : Int) {lo_b : Nat} {lo : Int} (lo_c : Cells h lo_b 0 [.int .i64 lo]) {hi_b : Nat} {hi : Int} (hi_c : Cells h hi_b 0 [.int .i64 hi]) : Calls Tryz.prog 130 #[.int .i64 n, .pointer (some ⟨lo_b, 0, none⟩), .pointer (some ⟨hi_b, 0, none⟩)] w (Rets h w (fun _ _ res_ => res_ = .bool ((decide (n < lo) || decide (hi < n))))) := by
  refine W.calls (n := 13) (args := [.int .i64 n, .pointer (some ⟨lo_b, 0, none⟩), .pointer (some ⟨hi_b, 0, none⟩)]) Tryz.func130 rfl rfl rfl ?_
  have st0 : St h w h w [] := St.start hs
  refine W.seq ?_
  refine W.region ?_
  refine OpsL.val rfl rfl (r_asB rfl) ?_
  refine OpsL.nil ?_
  refine Then.norm ?_
  refine W.seq ?_
  refine W.region ?_
  refine OpsL.val rfl rfl (r_mvI rfl) ?_
  refine OpsL.val rfl rfl (r_load_cells1 (j := 0) st0.sub lo_c rfl rfl rfl Tryz.isAgg3) ?_
  refine OpsL.val rfl rfl (r_lss rfl rfl) ?_
  refine OpsL.val rfl rfl (r_mvB rfl) ?_
  refine OpsL.split (d := 8) rfl (fun g1 => ?_) (fun g1 => ?_)
  ·
    replace g1 := of_decide_eq_true g1
    refine OpsL.skipped rfl rfl (d := 8) rfl rfl rfl ?_
    refine OpsL.skipped rfl rfl (d := 8) rfl rfl rfl ?_
    refine OpsL.skipped rfl rfl (d := 8) rfl rfl rfl ?_
    refine OpsL.val rfl rfl (r_pickT (v := (.bool _)) rfl rfl) ?_
    refine OpsL.val rfl rfl (r_asB rfl) ?_
    refine OpsL.nil ?_
    refine Then.norm ?_
    refine W.ret ?_
    -- return r1
    refine Post.ret1 Tryz.results130 ?_
    refine ⟨h, _, rfl, st0.done, ?_⟩
    refine bool_eq ?_
    first | (simp_all; done) | (simp_all; omega)
  ·
    replace g1 := of_decide_eq_false g1
    refine OpsL.guarded rfl rfl (d := 8) rfl ?_
    refine OpsL.val rfl rfl (r_mvI rfl) ?_
    refine OpsL.guarded rfl rfl (d := 8) rfl ?_
    refine OpsL.val rfl rfl (r_load_cells1 (j := 0) st0.sub hi_c rfl rfl rfl Tryz.isAgg3) ?_
    refine OpsL.guarded rfl rfl (d := 8) rfl ?_
    refine OpsL.val rfl rfl (r_gtr rfl rfl) ?_
    refine OpsL.val rfl rfl (r_pickF (v := (.bool _)) rfl rfl) ?_
    refine OpsL.val rfl rfl (r_asB rfl) ?_
    refine OpsL.nil ?_
    refine Then.norm ?_
    refine W.ret ?_
    -- return r2
    refine Post.ret1 Tryz.results130 ?_
    refine ⟨h, _, rfl, st0.done, ?_⟩
    refine bool_eq ?_
    first | (simp_all; done) | (simp_all; omega)
set_option maxRecDepth 4000 in
theorem c_leaf_in {h : Heap} {w : World} (hs : Sub h w) (lo : Int) (hi : Int) {all__v : Value} {all_ : (List Int)} (all__f : Sl LInt h all__v all_) : Calls Tryz.prog 89 #[.int .i64 lo, .int .i64 hi, all__v] w (Rets h w (fun _ _ res_ => res_ = .bool (inAll all_ lo hi))) := by
  refine W.calls (n := 11) (args := [.int .i64 lo, .int .i64 hi, all__v]) Tryz.func89 rfl rfl rfl ?_
  have st0 : St h w h w [] := St.start hs
  have all__f_b := all__f.le
  refine W.seq ?_
  refine W.region ?_
  refine OpsL.boxF st0 (cs := [.int .i64 lo]) rfl rfl rfl ?_
  intro b1 w2 h3 le4 hc5 st6
  refine OpsL.boxF st6 (cs := [.int .i64 hi]) rfl rfl rfl ?_
  intro b7 w8 h9 le10 hc11 st12
  refine OpsL.val rfl rfl (r_asB rfl) ?_
  refine OpsL.nil ?_
  refine Then.norm ?_
  refine W.seq ?_
  refine W.region ?_
  refine OpsL.val rfl rfl (r_move (v := all__v) rfl) ?_
  refine OpsL.val rfl rfl (r_make_func rfl rfl) ?_
  refine OpsL.callF st12 rfl rfl rfl Tryz.call95 rfl (c_slices_ContainsFunc_Lint_int st12.sub (all__f.up (le4.trans le10)) (fun x_ => (decide ((x_) < (lo)) || decide ((hi) < (x_)))) Tryz.call130 (fun x_ h_ w_ vs_ le_ hs_ hx_ hr_ u_ hu_ => by cases hu_; cases hr_; exact c_leaf_in_1 hs_ _ (lo := lo) ((hc5.up le10).up le_) (hi := hi) (hc11.up le_))) ?_
  intro r13 w14 h15 le16 st17 q18
  obtain rfl := q18
  refine OpsL.val rfl rfl (r_not rfl) ?_
  refine OpsL.val rfl rfl (r_asB rfl) ?_
  refine OpsL.nil ?_
  refine Then.norm ?_
  refine W.ret ?_
  -- return r1
  refine Post.ret1 Tryz.results89 ?_
  refine ⟨h15, _, rfl, st17.done, ?_⟩
  refine bool_eq ?_
  exact inAll_eq all_ lo hi
set_option maxRecDepth 4000 in
theorem c_stem_in_1 {h : Heap} {w : World} (hs : Sub h w) (n : Int) {lo_b : Nat} {lo : Int} (lo_c : Cells h lo_b 0 [.int .i64 lo]) {hi_b : Nat} {hi : Int} (hi_c : Cells h hi_b 0 [.int .i64 hi]) : Calls Tryz.prog 96 #[.int .i64 n, .pointer (some ⟨lo_b, 0, none⟩), .pointer (some ⟨hi_b, 0, none⟩)] w (Rets h w (fun _ _ res_ => res_ = .bool ((decide (n < lo) || decide (hi < n))))) := by
  refine W.calls (n := 13) (args := [.int .i64 n, .pointer (some ⟨lo_b, 0, none⟩), .pointer (some ⟨hi_b, 0, none⟩)]) Tryz.func96 rfl rfl rfl ?_
  have st0 : St h w h w [] := St.start hs
  refine W.seq ?_
  refine W.region ?_
  refine OpsL.val rfl rfl (r_asB rfl) ?_
  refine OpsL.nil ?_
  refine Then.norm ?_
  refine W.seq ?_
  refine W.region ?_
  refine OpsL.val rfl rfl (r_mvI rfl) ?_
  refine OpsL.val rfl rfl (r_load_cells1 (j := 0) st0.sub lo_c rfl rfl rfl Tryz.isAgg3) ?_
  refine OpsL.val rfl rfl (r_lss rfl rfl) ?_
  refine OpsL.val rfl rfl (r_mvB rfl) ?_
  refine OpsL.split (d := 8) rfl (fun g1 => ?_) (fun g1 => ?_)
  ·
    replace g1 := of_decide_eq_true g1
    refine OpsL.skipped rfl rfl (d := 8) rfl rfl rfl ?_
    refine OpsL.skipped rfl rfl (d := 8) rfl rfl rfl ?_
    refine OpsL.skipped rfl rfl (d := 8) rfl rfl rfl ?_
    refine OpsL.val rfl rfl (r_pickT (v := (.bool _)) rfl rfl) ?_
    refine OpsL.val rfl rfl (r_asB rfl) ?_
    refine OpsL.nil ?_
    refine Then.norm ?_
    refine W.ret ?_
    -- return r1
    refine Post.ret1 Tryz.results96 ?_
    refine ⟨h, _, rfl, st0.done, ?_⟩
    refine bool_eq ?_
    first | (simp_all; done) | (simp_all; omega)
  ·
    replace g1 := of_decide_eq_false g1
    refine OpsL.guarded rfl rfl (d := 8) rfl ?_
    refine OpsL.val rfl rfl (r_mvI rfl) ?_
    refine OpsL.guarded rfl rfl (d := 8) rfl ?_
    refine OpsL.val rfl rfl (r_load_cells1 (j := 0) st0.sub hi_c rfl rfl rfl Tryz.isAgg3) ?_
    refine OpsL.guarded rfl rfl (d := 8) rfl ?_
    refine OpsL.val rfl rfl (r_gtr rfl rfl) ?_
    refine OpsL.val rfl rfl (r_pickF (v := (.bool _)) rfl rfl) ?_
    refine OpsL.val rfl rfl (r_asB rfl) ?_
    refine OpsL.nil ?_
    refine Then.norm ?_
    refine W.ret ?_
    -- return r2
    refine Post.ret1 Tryz.results96 ?_
    refine ⟨h, _, rfl, st0.done, ?_⟩
    refine bool_eq ?_
    first | (simp_all; done) | (simp_all; omega)
set_option maxRecDepth 4000 in
theorem c_stem_in {h : Heap} {w : World} (hs : Sub h w) (lo : Int) (hi : Int) {all__v : Value} {all_ : (List Int)} (all__f : Sl LInt h all__v all_) : Calls Tryz.prog 50 #[.int .i64 lo, .int .i64 hi, all__v] w (Rets h w (fun _ _ res_ => res_ = .bool (inAll all_ lo hi))) := by
  refine W.calls (n := 11) (args := [.int .i64 lo, .int .i64 hi, all__v]) Tryz.func50 rfl rfl rfl ?_
  have st0 : St h w h w [] := St.start hs
  have all__f_b := all__f.le
  refine W.seq ?_
  refine W.region ?_
  refine OpsL.boxF st0 (cs := [.int .i64 lo]) rfl rfl rfl ?_
  intro b1 w2 h3 le4 hc5 st6
  refine OpsL.boxF st6 (cs := [.int .i64 hi]) rfl rfl rfl ?_
  intro b7 w8 h9 le10 hc11 st12
  refine OpsL.val rfl rfl (r_asB rfl) ?_
  refine OpsL.nil ?_
  refine Then.norm ?_
  refine W.seq ?_
  refine W.region ?_
  refine OpsL.val rfl rfl (r_move (v := all__v) rfl) ?_
  refine OpsL.val rfl rfl (r_make_func rfl rfl) ?_
  refine OpsL.callF st12 rfl rfl rfl Tryz.call95 rfl (c_slices_ContainsFunc_Lint_int st12.sub (all__f.up (le4.trans le10)) (fun x_ => (decide ((x_) < (lo)) || decide ((hi) < (x_)))) Tryz.call96 (fun x_ h_ w_ vs_ le_ hs_ hx_ hr_ u_ hu_ => by cases hu_; cases hr_; exact c_stem_in_1 hs_ _ (lo := lo) ((hc5.up le10).up le_) (hi := hi) (hc11.up le_))) ?_
  intro r13 w14 h15 le16 st17 q18
  obtain rfl := q18
  refine OpsL.val rfl rfl (r_not rfl) ?_
  refine OpsL.val rfl rfl (r_asB rfl) ?_
  refine OpsL.nil ?_
  refine Then.norm ?_
  refine W.ret ?_
  -- return r1
  refine Post.ret1 Tryz.results50 ?_
  refine ⟨h15, _, rfl, st17.done, ?_⟩
  refine bool_eq ?_
  exact inAll_eq all_ lo hi
set_option maxRecDepth 4000 in
theorem c_leaf_word_1 {h : Heap} {w : World} (hs : Sub h w) (b : Int) (b_l : 0 ≤ b ∧ b ≤ 255) : Calls Tryz.prog 133 #[.int .u8 b] w (Rets h w (fun _ _ res_ => res_ = .bool ((decide (b < 97) || decide (122 < b))))) := by
  refine W.calls (n := 9) (args := [.int .u8 b]) Tryz.func133 rfl rfl rfl ?_
  have st0 : St h w h w [] := St.start hs
  refine W.seq ?_
  refine W.region ?_
  refine OpsL.val rfl rfl (r_asB rfl) ?_
  refine OpsL.nil ?_
  refine Then.norm ?_
  refine W.seq ?_
  refine W.region ?_
  refine OpsL.val rfl rfl (r_mvI rfl) ?_
  refine OpsL.val rfl rfl (r_lss rfl rfl) ?_
  refine OpsL.val rfl rfl (r_mvB rfl) ?_
  refine OpsL.split (d := 5) rfl (fun g1 => ?_) (fun g1 => ?_)
  ·
    replace g1 := of_decide_eq_true g1
    refine OpsL.skipped rfl rfl (d := 5) rfl rfl rfl ?_
    refine OpsL.skipped rfl rfl (d := 5) rfl rfl rfl ?_
    refine OpsL.val rfl rfl (r_pickT (v := (.bool _)) rfl rfl) ?_
    refine OpsL.val rfl rfl (r_asB rfl) ?_
    refine OpsL.nil ?_
    refine Then.norm ?_
    refine W.ret ?_
    -- return r1
    refine Post.ret1 Tryz.results133 ?_
    refine ⟨h, _, rfl, st0.done, ?_⟩
    refine bool_eq ?_
    first | (simp_all; done) | (simp_all; omega)
  ·
    replace g1 := of_decide_eq_false g1
    refine OpsL.guarded rfl rfl (d := 5) rfl ?_
    refine OpsL.val rfl rfl (r_mvI rfl) ?_
    refine OpsL.guarded rfl rfl (d := 5) rfl ?_
    refine OpsL.val rfl rfl (r_gtr rfl rfl) ?_
    refine OpsL.val rfl rfl (r_pickF (v := (.bool _)) rfl rfl) ?_
    refine OpsL.val rfl rfl (r_asB rfl) ?_
    refine OpsL.nil ?_
    refine Then.norm ?_
    refine W.ret ?_
    -- return r2
    refine Post.ret1 Tryz.results133 ?_
    refine ⟨h, _, rfl, st0.done, ?_⟩
    refine bool_eq ?_
    first | (simp_all; done) | (simp_all; omega)
set_option maxRecDepth 4000 in
theorem c_leaf_word {h : Heap} {w : World} (hs : Sub h w) (s : Str) (s_le : s.length ≤ 281474976710656) : Calls Tryz.prog 92 #[strV s] w (Rets h w (fun _ _ res_ => res_ = .bool (wordB s))) := by
  refine W.calls (n := 13) (args := [strV s]) Tryz.func92 rfl rfl rfl ?_
  have st0 : St h w h w [] := St.start hs
  refine W.seq ?_
  refine W.region ?_
  refine OpsL.val rfl rfl (r_asB rfl) ?_
  refine OpsL.nil ?_
  refine Then.norm ?_
  refine W.seq ?_
  refine W.region ?_
  refine OpsL.val rfl rfl (r_mvS rfl) ?_
  refine OpsL.val rfl rfl (r_len_str rfl Tryz.underlying9) ?_
  refine OpsL.sliceF (L := LInt) (xs := [(s.length : Int)]) (cs := [.int .i64 (s.length : Int)]) st0 (Enc.cons (L := LInt) (vs := [.int .i64 (s.length : Int)]) (x := (s.length : Int)) (h := h) (rfl) Enc.nil) rfl rfl rfl Tryz.underlying39 Tryz.info3 rfl rfl rfl (by kernel_rfl) ?_
  intro v1 w2 h5 le6 f3 st4
  refine OpsL.callF st4 rfl rfl rfl Tryz.call89 rfl (c_leaf_in st4.sub _ _ f3) ?_
  intro r7 w8 h9 le10 st11 q12
  obtain rfl := q12
  refine OpsL.val rfl rfl (r_mvB rfl) ?_
  refine OpsL.split (d := 7) rfl (fun g13 => ?_) (fun g13 => ?_)
  ·
    refine OpsL.guarded rfl rfl (d := 7) rfl ?_
    refine OpsL.val rfl rfl (r_mvS rfl) ?_
    refine OpsL.guarded rfl rfl (d := 7) rfl ?_
    refine OpsL.strBytes st11 (s := s) rfl (by first | assumption | omega | (simp; omega)) rfl Tryz.underlying9 Tryz.underlying195 Tryz.underlying5 Tryz.sizeOf5 ?_
    intro v14 w15 h16 le17 f18 st19
    refine OpsL.guarded rfl rfl (d := 7) rfl ?_
    refine OpsL.callF st19 rfl rfl rfl Tryz.call132 rfl (c_slices_ContainsFunc_Lbyte_byte st19.sub f18 (fun x_ => (decide ((x_) < 97) || decide (122 < (x_)))) Tryz.call133 (fun x_ h_ w_ vs_ le_ hs_ hx_ hr_ u_ hu_ => by cases hu_; obtain ⟨hr1_, hr2_⟩ := hr_; cases hr1_; exact c_leaf_word_1 hs_ _ hr2_)) ?_
    intro r20 w21 h22 le23 st24 q25
    obtain rfl := q25
    refine OpsL.guarded rfl rfl (d := 7) rfl ?_
    refine OpsL.val rfl rfl (r_not rfl) ?_
    refine OpsL.val rfl rfl (r_pickT (v := (.bool _)) rfl rfl) ?_
    refine OpsL.val rfl rfl (r_asB rfl) ?_
    refine OpsL.nil ?_
    refine Then.norm ?_
    refine W.ret ?_
    -- return r1
    refine Post.ret1 Tryz.results92 ?_
    refine ⟨h22, _, rfl, st24.done, ?_⟩
    refine bool_eq ?_
    simp_all [wordB_eq]
  ·
    refine OpsL.skipped rfl rfl (d := 7) rfl rfl rfl ?_
    refine OpsL.skipped rfl rfl (d := 7) rfl rfl rfl ?_
    refine OpsL.skipped rfl rfl (d := 7) rfl rfl rfl ?_
    refine OpsL.skipped rfl rfl (d := 7) rfl rfl rfl ?_
    refine OpsL.val rfl rfl (r_pickF (v := (.bool _)) rfl rfl) ?_
    refine OpsL.val rfl rfl (r_asB rfl) ?_
    refine OpsL.nil ?_
    refine Then.norm ?_
    refine W.ret ?_
    -- return r2
    refine Post.ret1 Tryz.results92 ?_
    refine ⟨h9, _, rfl, st11.done, ?_⟩
    refine bool_eq ?_
    simp_all [wordB_eq]
set_option maxRecDepth 4000 in
theorem c_leaf_Check_1 {h : Heap} {w : World} (hs : Sub h w) (s : Str) (s_le : s.length ≤ 281474976710656) : Calls Tryz.prog 91 #[strV s] w (Rets h w (fun _ _ res_ => res_ = .bool ((!wordB s)))) := by
  refine W.calls (n := 6) (args := [strV s]) Tryz.func91 rfl rfl rfl ?_
  have st0 : St h w h w [] := St.start hs
  refine W.seq ?_
  refine W.region ?_
  refine OpsL.val rfl rfl (r_asB rfl) ?_
  refine OpsL.nil ?_
  refine Then.norm ?_
  refine W.seq ?_
  refine W.region ?_
  refine OpsL.val rfl rfl (r_mvS rfl) ?_
  refine OpsL.callF st0 rfl rfl rfl Tryz.call92 rfl (c_leaf_word st0.sub _ (by first | assumption | (simp [big]; done) | (simp [big]; omega) | omega)) ?_
  intro r1 w2 h3 le4 st5 q6
  obtain rfl := q6
  refine OpsL.val rfl rfl (r_not rfl) ?_
  refine OpsL.val rfl rfl (r_asB rfl) ?_
  refine OpsL.nil ?_
  refine Then.norm ?_
  refine W.ret ?_
  -- return r1
  refine Post.ret1 Tryz.results91 ?_
  refine ⟨h3, _, rfl, st5.done, ?_⟩
  refine bool_eq ?_
  rfl
set_option maxRecDepth 4000 in
theorem c_leaf_Check {h : Heap} {w : World} (hs : Sub h w) {t : Text} {t_v0 : Value} (t_f0 : Sl LChapter h t_v0 t.chapters) : Calls Tryz.prog 47 #[.agg #[t_v0]] w (Rets h w (fun _ _ res_ => res_ = .int .i64 ((if textB t then 0 else 10)))) := by
  refine W.calls (n := 64) (args := [.agg #[t_v0]]) Tryz.func47 rfl rfl rfl ?_
  have st0 : St h w h w [] := St.start hs
  have t_f0_b := t_f0.le
  refine W.seq ?_
  refine W.region ?_
  refine OpsL.boxF st0 (cs := [t_v0]) rfl rfl rfl ?_
  intro b1 w2 h3 le4 hc5 st6
  refine OpsL.val rfl rfl (r_asI rfl) ?_
  refine OpsL.nil ?_
  refine Then.norm ?_
  refine W.scope ?_
  refine W.seq ?_
  refine W.seq ?_
  refine W.region ?_
  refine OpsL.val rfl rfl (r_field_addr rfl Tryz.underlying24 rfl Tryz.sizeOf22 rfl) ?_
  refine OpsL.val rfl rfl (r_load_cells1 (j := 0) st6.sub hc5 rfl rfl rfl Tryz.isAgg22) ?_
  refine OpsL.val rfl rfl (r_len (t_f0.up le4) rfl Tryz.underlying22) ?_
  refine OpsL.sliceF (L := LInt) (xs := [(t.chapters.length : Int)]) (cs := [.int .i64 (t.chapters.length : Int)]) st6 (Enc.cons (L := LInt) (vs := [.int .i64 (t.chapters.length : Int)]) (x := (t.chapters.length : Int)) (h := h3) (rfl) Enc.nil) rfl rfl rfl Tryz.underlying39 Tryz.info3 rfl rfl rfl (by kernel_rfl) ?_
  intro v7 w8 h11 le12 f9 st10
  refine OpsL.callF st10 rfl rfl rfl Tryz.call89 rfl (c_leaf_in st10.sub _ _ f9) ?_
  intro r13 w14 h15 le16 st17 q18
  obtain rfl := q18
  refine OpsL.val rfl rfl (r_not rfl) ?_
  refine OpsL.nil ?_
  refine Then.norm ?_
  refine W.cond rfl (fun c19 => ?_) (fun c19 => ?_)
  ·
    refine W.seq ?_
    refine W.region ?_
    refine OpsL.val rfl rfl (r_asI rfl) ?_
    refine OpsL.nil ?_
    refine Then.norm ?_
    refine W.ret ?_
    refine Then.ret ?_
    refine NoGo.ret ?_
    -- return r1
    refine Post.ret1 Tryz.results47 ?_
    refine ⟨h15, _, rfl, st17.done, ?_⟩
    refine int_eq ?_
    simp_all [textB]
  ·
    refine W.skip ?_
    refine Then.norm ?_
    refine W.seq ?_
    refine W.region ?_
    refine OpsL.val rfl rfl (r_asI rfl) ?_
    refine OpsL.nil ?_
    refine Then.norm ?_
    refine W.seq ?_
    refine W.region ?_
    refine OpsL.makeMap (κ := Int) (υ := Bool) (ek := (fun n : Int => .int .i64 n)) (eu := (fun b : Bool => .bool b)) st17 rfl ?_
    intro v20 o21 w22 f23 st24
    obtain ⟨mb25, rfl⟩ := f23.form
    have nd26 : (([] : List (Int × Bool)).map (·.1)).Nodup := by simp
    refine OpsL.val rfl rfl (r_assign (v := (.map (some mb25))) rfl) ?_
    refine OpsL.nil ?_
    refine Then.norm ?_
    refine W.seq ?_
    refine W.label ?_
    refine Then.norm ?_
    refine W.seq ?_
    refine W.seq ?_
    refine W.region ?_
    refine OpsL.val rfl rfl (r_field_addr rfl Tryz.underlying24 rfl Tryz.sizeOf22 rfl) ?_
    refine OpsL.val rfl rfl (r_load_cells1 (j := 0) st24.sub (hc5.up (le12.trans le16)) rfl rfl rfl Tryz.isAgg22) ?_
    refine OpsL.val rfl rfl (r_len (t_f0.up ((le4.trans le12).trans le16)) rfl Tryz.underlying22) ?_
    refine OpsL.val rfl rfl (r_mvI rfl) ?_
    refine OpsL.nil ?_
    refine Then.norm ?_
    refine W.block ?_
    refine W.loopI [2, 3, 6, 8, 19, 20, 21, 22, 23, 24, 25, 26, 27, 28, 29, 30, 31, 32, 33, 34, 35, 36, 37, 38, 39, 40, 41, 42, 43, 44, 45, 46, 47, 48, 49, 50, 51, 52, 53, 54, 55, 56, 57, 58, 59, 60, 61, 62] (G := Nat × List (Int × Bool) × List (Nat × Obj) × Heap) (fun ⟨i, m, o_4, h27⟩ => [(3, .int .i64 0), (19, .int .i64 (i : Int))]) (fun ⟨i, m, o_4, h27⟩ w' => Le h15 h27 ∧ St h w h27 w' [o_4] ∧ (OM (fun n : Int => .int .i64 n) (fun b : Bool => .bool b) (m) o_4 (.map (some mb25))) ∧ (((m).map (·.1)).Nodup) ∧ (i ≤ t.chapters.length) ∧ ((t.chapters.take i).all chapterB = true) ∧ (((t.chapters.take i).map (·.id)).Nodup) ∧ (∀ k, (look m k).getD false = decide (k ∈ (t.chapters.take i).map (·.id)))) (fun ⟨i, m, o_4, h27⟩ => t.chapters.length - i) ⟨0, [], o21, h15⟩ ⟨rfl, rfl, trivial⟩ ⟨Le.refl _, st24, (by have q := f23; exact q), (by have q := nd26; exact q), (by first | omega | simp | trivial), (by first | omega | simp | trivial), (by first | omega | simp | trivial), (by intro k; simp [look])⟩ ?_
    rintro ⟨i, m, o_4, h27⟩ _ w30 ⟨le28, st29, hM_4, hN_4, hi, hA, hN, hm⟩
    refine W.seq ?_
    refine W.region ?_
    refine OpsL.val rfl rfl (r_lss rfl rfl) ?_
    refine OpsL.nil ?_
    refine Then.norm ?_
    refine W.seq ?_
    refine W.cond rfl (fun c31 => ?_) (fun c31 => ?_)
    ·
      replace c31 := of_decide_eq_true c31
      refine W.skip ?_
      refine Then.norm ?_
      refine W.seq ?_
      refine W.block ?_
      refine W.seq ?_
      refine W.region ?_
      have hc : ∃ y, (t.chapters)[i]? = some y := ⟨_, List.getElem?_eq_getElem (by omega)⟩
      obtain ⟨c, hc⟩ := hc
      obtain ⟨b32, o33, _, he35, hc34, hr_c⟩ := Sl.elem (t_f0.up (((le4.trans le12).trans le16).trans le28)) hc
      obtain ⟨v36, rfl, f37⟩ := hr_c
      have f37_b := f37.le
      refine OpsL.val rfl rfl (r_index_el he35 rfl rfl (hk := rfl) (hu := Tryz.underlying22) (hz := Tryz.sizeOf93)) ?_
      refine OpsL.val rfl rfl (r_load_call st29.sub hc34 rfl Tryz.isAgg93 Tryz.sizeOf93 rfl) ?_
      refine OpsL.allocO st29 Tryz.zeroValue93 rfl rfl ?_
      intro b38 w39 st40
      refine OpsL.storeN st40 (k := 1) rfl rfl rfl (one_cons rfl (one_cons f37.one one_nil)) Tryz.sizeOf93 rfl rfl rfl ?_
      intro w41 st42
      obtain ⟨h43, le44, hb45, st47⟩ := st42.freeze (k := 1) rfl
      have hc46 := Cells.of hb45
      refine OpsL.nil ?_
      refine Then.norm ?_
      refine W.seq ?_
      refine W.seq ?_
      refine W.region ?_
      refine OpsL.val rfl rfl (r_field_addr rfl Tryz.underlying93 rfl Tryz.sizeOf3 rfl) ?_
      refine OpsL.val rfl rfl (r_load_cells1 (j := 0) st47.sub hc46 rfl rfl rfl Tryz.isAgg3) ?_
      refine OpsL.sliceF (L := LInt) (xs := [(c.id)]) (cs := [.int .i64 (c.id)]) st47 (Enc.cons (L := LInt) (vs := [.int .i64 (c.id)]) (x := (c.id)) (h := h43) (rfl) Enc.nil) rfl rfl rfl Tryz.underlying39 Tryz.info3 rfl rfl rfl (by kernel_rfl) ?_
      intro v48 w49 h52 le53 f50 st51
      refine OpsL.callF st51 rfl rfl rfl Tryz.call89 rfl (c_leaf_in st51.sub _ _ f50) ?_
      intro r54 w55 h56 le57 st58 q59
      obtain rfl := q59
      refine OpsL.val rfl rfl (r_not rfl) ?_
      refine OpsL.val rfl rfl (r_mvB rfl) ?_
      refine OpsL.split (d := 28) rfl (fun g60 => ?_) (fun g60 => ?_)
      ·
        refine OpsL.skipped rfl rfl (d := 28) rfl rfl rfl ?_
        refine OpsL.skipped rfl rfl (d := 28) rfl rfl rfl ?_
        refine OpsL.skipped rfl rfl (d := 28) rfl rfl rfl ?_
        refine OpsL.skipped rfl rfl (d := 28) rfl rfl rfl ?_
        refine OpsL.val rfl rfl (r_pickT (v := (.bool _)) rfl rfl) ?_
        refine OpsL.val rfl rfl (r_mvB rfl) ?_
        refine OpsL.skipped rfl rfl (d := 34) rfl rfl rfl ?_
        refine OpsL.skipped rfl rfl (d := 34) rfl rfl rfl ?_
        refine OpsL.skipped rfl rfl (d := 34) rfl rfl rfl ?_
        refine OpsL.skipped rfl rfl (d := 34) rfl rfl rfl ?_
        refine OpsL.skipped rfl rfl (d := 34) rfl rfl rfl ?_
        refine OpsL.skipped rfl rfl (d := 34) rfl rfl rfl ?_
        refine OpsL.val rfl rfl (r_pickT (v := (.bool _)) rfl rfl) ?_
        refine OpsL.nil ?_
        refine Then.norm ?_
        refine W.cond rfl (fun c61 => ?_) (fun c61 => ?_)
        ·
          refine W.seq ?_
          refine W.region ?_
          refine OpsL.val rfl rfl (r_asI rfl) ?_
          refine OpsL.nil ?_
          refine Then.norm ?_
          refine W.ret ?_
          refine Then.ret ?_
          refine Blk.ret ?_
          refine Then.ret ?_
          refine Then.ret ?_
          refine Blk.ret ?_
          refine Then.ret ?_
          refine NoGo.ret ?_
          -- return r2
          refine Post.ret1 Tryz.results47 ?_
          refine ⟨h56, _, rfl, st58.done, ?_⟩
          refine int_eq ?_
          have q0 : chapterB c = false := by
            have q := g60
            simp at q
            simp [chapterB, q]
          have q := not_all (p := chapterB) hc q0
          simp [textB, q]
        ·
          cases c61
      ·
        refine OpsL.guarded rfl rfl (d := 28) rfl ?_
        refine OpsL.val rfl rfl (r_move (v := (.map (some mb25))) rfl) ?_
        refine OpsL.guarded rfl rfl (d := 28) rfl ?_
        refine OpsL.val rfl rfl (r_field_addr rfl Tryz.underlying93 rfl Tryz.sizeOf3 rfl) ?_
        refine OpsL.guarded rfl rfl (d := 28) rfl ?_
        refine OpsL.val rfl rfl (r_load_cells1 (j := 0) st58.sub (hc46.up (le53.trans le57)) rfl rfl rfl Tryz.isAgg3) ?_
        refine OpsL.guarded rfl rfl (d := 28) rfl ?_
        refine OpsL.val rfl rfl (r_look (k := (c.id)) (zu := false) (key_int Tryz.underlying3) Tryz.underlying107 hM_4 (st58.ent (k := 0) rfl) Tryz.zeroValue4 rfl rfl rfl) ?_
        refine OpsL.val rfl rfl (r_pickF (v := (.bool _)) rfl rfl) ?_
        refine OpsL.val rfl rfl (r_mvB rfl) ?_
        refine OpsL.split (d := 34) rfl (fun g62 => ?_) (fun g62 => ?_)
        ·
          refine OpsL.skipped rfl rfl (d := 34) rfl rfl rfl ?_
          refine OpsL.skipped rfl rfl (d := 34) rfl rfl rfl ?_
          refine OpsL.skipped rfl rfl (d := 34) rfl rfl rfl ?_
          refine OpsL.skipped rfl rfl (d := 34) rfl rfl rfl ?_
          refine OpsL.skipped rfl rfl (d := 34) rfl rfl rfl ?_
          refine OpsL.skipped rfl rfl (d := 34) rfl rfl rfl ?_
          refine OpsL.val rfl rfl (r_pickT (v := (.bool _)) rfl rfl) ?_
          refine OpsL.nil ?_
          refine Then.norm ?_
          refine W.cond rfl (fun c63 => ?_) (fun c63 => ?_)
          ·
            refine W.seq ?_
            refine W.region ?_
            refine OpsL.val rfl rfl (r_asI rfl) ?_
            refine OpsL.nil ?_
            refine Then.norm ?_
            refine W.ret ?_
            refine Then.ret ?_
            refine Blk.ret ?_
            refine Then.ret ?_
            refine Then.ret ?_
            refine Blk.ret ?_
            refine Then.ret ?_
            refine NoGo.ret ?_
            -- return r3
            refine Post.ret1 Tryz.results47 ?_
            refine ⟨h56, _, rfl, st58.done, ?_⟩
            refine int_eq ?_
            have q0 := g62
            rw [hm] at q0
            have q := not_nodup_mem (f := (·.id)) hc (by simpa using q0)
            simp [textB, q]
          ·
            cases c63
        ·
          refine OpsL.guarded rfl rfl (d := 34) rfl ?_
          refine OpsL.val rfl rfl (r_field_addr rfl Tryz.underlying93 rfl Tryz.sizeOf91 rfl) ?_
          refine OpsL.guarded rfl rfl (d := 34) rfl ?_
          refine OpsL.val rfl rfl (r_load_cells1 (j := 1) st58.sub (hc46.up (le53.trans le57)) rfl rfl rfl Tryz.isAgg91) ?_
          refine OpsL.guarded rfl rfl (d := 34) rfl ?_
          refine OpsL.val rfl rfl (r_len (f37.up ((le44.trans le53).trans le57)) rfl Tryz.underlying91) ?_
          refine OpsL.guarded rfl rfl (d := 34) rfl ?_
          refine OpsL.sliceF (L := LInt) (xs := [(c.lines.length : Int)]) (cs := [.int .i64 (c.lines.length : Int)]) st58 (Enc.cons (L := LInt) (vs := [.int .i64 (c.lines.length : Int)]) (x := (c.lines.length : Int)) (h := h56) (rfl) Enc.nil) rfl rfl rfl Tryz.underlying39 Tryz.info3 rfl rfl rfl (by kernel_rfl) ?_
          intro v64 w65 h68 le69 f66 st67
          refine OpsL.guarded rfl rfl (d := 34) rfl ?_
          refine OpsL.callF st67 rfl rfl rfl Tryz.call89 rfl (c_leaf_in st67.sub _ _ f66) ?_
          intro r70 w71 h72 le73 st74 q75
          obtain rfl := q75
          refine OpsL.guarded rfl rfl (d := 34) rfl ?_
          refine OpsL.val rfl rfl (r_not rfl) ?_
          refine OpsL.val rfl rfl (r_pickF (v := (.bool _)) rfl rfl) ?_
          refine OpsL.nil ?_
          refine Then.norm ?_
          refine W.cond rfl (fun c76 => ?_) (fun c76 => ?_)
          ·
            refine W.seq ?_
            refine W.region ?_
            refine OpsL.val rfl rfl (r_asI rfl) ?_
            refine OpsL.nil ?_
            refine Then.norm ?_
            refine W.ret ?_
            refine Then.ret ?_
            refine Blk.ret ?_
            refine Then.ret ?_
            refine Then.ret ?_
            refine Blk.ret ?_
            refine Then.ret ?_
            refine NoGo.ret ?_
            -- return r4
            refine Post.ret1 Tryz.results47 ?_
            refine ⟨h72, _, rfl, st74.done, ?_⟩
            refine int_eq ?_
            have q0 : chapterB c = false := by
              have q := c76
              simp at q
              simp [chapterB, q]
            have q := not_all (p := chapterB) hc q0
            simp [textB, q]
          ·
            refine W.skip ?_
            refine Then.norm ?_
            refine W.seq ?_
            refine W.region ?_
            refine OpsL.val rfl rfl (r_move (v := (.map (some mb25))) rfl) ?_
            refine OpsL.val rfl rfl (r_field_addr rfl Tryz.underlying93 rfl Tryz.sizeOf3 rfl) ?_
            refine OpsL.val rfl rfl (r_load_cells1 (j := 0) st74.sub (hc46.up (((le53.trans le57).trans le69).trans le73)) rfl rfl rfl Tryz.isAgg3) ?_
            refine OpsL.mapUpdate (i := 0) st74 hM_4 rfl hN_4 (key_int Tryz.underlying3) Tryz.underlying107 rfl (k := (c.id)) rfl (u := true) rfl ?_
            intro o77 w78 _ e79 f80 nd81 st82
            subst e79
            refine OpsL.nil ?_
            refine Then.norm ?_
            refine W.seq ?_
            refine W.region ?_
            refine OpsL.val rfl rfl (r_field_addr rfl Tryz.underlying93 rfl Tryz.sizeOf91 rfl) ?_
            refine OpsL.val rfl rfl (r_load_cells1 (j := 1) st82.sub (hc46.up (((le53.trans le57).trans le69).trans le73)) rfl rfl rfl Tryz.isAgg91) ?_
            refine OpsL.val rfl rfl (r_len (f37.up ((((le44.trans le53).trans le57).trans le69).trans le73)) rfl Tryz.underlying91) ?_
            refine OpsL.val rfl rfl (r_mvI rfl) ?_
            refine OpsL.nil ?_
            refine Then.norm ?_
            refine W.block ?_
            refine W.loopI [3, 8, 48, 49, 50, 51, 52, 53, 54, 55, 56, 57, 58, 59, 60, 61] (G := Nat × List (Nat × Obj) × Heap) (fun ⟨k2, o_4, h83⟩ => [(3, .int .i64 0), (48, .int .i64 (k2 : Int))]) (fun ⟨k2, o_4, h83⟩ w' => Le h72 h83 ∧ St h w h83 w' [o_4, []] ∧ (OM (fun n : Int => .int .i64 n) (fun b : Bool => .bool b) (putM m c.id true) o_4 (.map (some mb25))) ∧ (((putM m c.id true).map (·.1)).Nodup) ∧ (k2 ≤ c.lines.length) ∧ ((c.lines.take k2).all lineB = true)) (fun ⟨k2, o_4, h83⟩ => c.lines.length - k2) ⟨0, o77, h72⟩ ⟨rfl, rfl, trivial⟩ ⟨Le.refl _, st82, (by have q := f80; exact q), (by have q := nd81; exact q), (by first | omega | simp | trivial), (by first | omega | simp | trivial)⟩ ?_
            rintro ⟨k2, o_4, h83⟩ _ w86 ⟨le84, st85, hM_4, hN_4, hk2, hl⟩
            refine W.seq ?_
            refine W.region ?_
            refine OpsL.val rfl rfl (r_lss rfl rfl) ?_
            refine OpsL.nil ?_
            refine Then.norm ?_
            refine W.seq ?_
            refine W.cond rfl (fun c87 => ?_) (fun c87 => ?_)
            ·
              replace c87 := of_decide_eq_true c87
              refine W.skip ?_
              refine Then.norm ?_
              refine W.seq ?_
              refine W.block ?_
              refine W.seq ?_
              refine W.region ?_
              have hln : ∃ y, (c.lines)[k2]? = some y := ⟨_, List.getElem?_eq_getElem (by omega)⟩
              obtain ⟨ln, hln⟩ := hln
              obtain ⟨b88, o89, _, he91, hc90, hr_ln⟩ := Sl.elem (f37.up (((((le44.trans le53).trans le57).trans le69).trans le73).trans le84)) hln
              obtain ⟨v92, rfl, f93⟩ := hr_ln
              have f93_b := f93.le
              refine OpsL.val rfl rfl (r_index_el he91 rfl rfl (hk := rfl) (hu := Tryz.underlying91) (hz := Tryz.sizeOf33)) ?_
              refine OpsL.val rfl rfl (r_load_cells1 (j := 0) st85.sub hc90 rfl rfl rfl Tryz.isAgg33) ?_
              refine OpsL.val rfl rfl (r_assign (v := v92) rfl) ?_
              refine OpsL.nil ?_
              refine Then.norm ?_
              refine W.seq ?_
              refine W.region ?_
              refine OpsL.val rfl rfl (r_move (v := v92) rfl) ?_
              refine OpsL.val rfl rfl (r_len f93 rfl Tryz.underlying33) ?_
              refine OpsL.sliceF (L := LInt) (xs := [(ln.length : Int)]) (cs := [.int .i64 (ln.length : Int)]) st85 (Enc.cons (L := LInt) (vs := [.int .i64 (ln.length : Int)]) (x := (ln.length : Int)) (h := h83) (rfl) Enc.nil) rfl rfl rfl Tryz.underlying39 Tryz.info3 rfl rfl rfl (by kernel_rfl) ?_
              intro v94 w95 h98 le99 f96 st97
              refine OpsL.callF st97 rfl rfl rfl Tryz.call89 rfl (c_leaf_in st97.sub _ _ f96) ?_
              intro r100 w101 h102 le103 st104 q105
              obtain rfl := q105
              refine OpsL.val rfl rfl (r_not rfl) ?_
              refine OpsL.val rfl rfl (r_mvB rfl) ?_
              refine OpsL.split (d := 57) rfl (fun g106 => ?_) (fun g106 => ?_)
              ·
                refine OpsL.skipped rfl rfl (d := 57) rfl rfl rfl ?_
                refine OpsL.skipped rfl rfl (d := 57) rfl rfl rfl ?_
                refine OpsL.val rfl rfl (r_pickT (v := (.bool _)) rfl rfl) ?_
                refine OpsL.nil ?_
                refine Then.norm ?_
                refine W.cond rfl (fun c107 => ?_) (fun c107 => ?_)
                ·
                  refine W.seq ?_
                  refine W.region ?_
                  refine OpsL.val rfl rfl (r_asI rfl) ?_
                  refine OpsL.nil ?_
                  refine Then.norm ?_
                  refine W.exit ?_
                  refine Blk.miss rfl ?_
                  refine Then.exit ?_
                  refine Then.exit ?_
                  refine Blk.miss rfl ?_
                  refine Blk.miss rfl ?_
                  refine Then.exit ?_
                  refine Then.exit ?_
                  refine Blk.hit ?_
                  refine Then.norm ?_
                  refine W.seq ?_
                  refine W.region ?_
                  refine OpsL.val rfl rfl (r_mvI rfl) ?_
                  refine OpsL.val rfl rfl (r_asI rfl) ?_
                  refine OpsL.nil ?_
                  refine Then.norm ?_
                  refine W.ret ?_
                  refine NoGo.ret ?_
                  -- return r5
                  refine Post.ret1 Tryz.results47 ?_
                  refine ⟨h102, _, rfl, st104.done, ?_⟩
                  refine int_eq ?_
                  have q1 : lineB ln = false := by
                    have q := g106
                    simp at q
                    simp [lineB, q]
                  have q2 := not_all (p := lineB) hln q1
                  have q0 : chapterB c = false := by simp [chapterB, q2]
                  have q := not_all (p := chapterB) hc q0
                  simp [textB, q]
                ·
                  cases c107
              ·
                refine OpsL.guarded rfl rfl (d := 57) rfl ?_
                refine OpsL.val rfl rfl (r_move (v := v92) rfl) ?_
                refine OpsL.guarded rfl rfl (d := 57) rfl ?_
                refine OpsL.callF st104 rfl rfl rfl Tryz.call90 rfl (c_slices_ContainsFunc_Lstring_string st104.sub (f93.up (le99.trans le103)) (fun x_ => (!wordB (x_))) Tryz.call91 (fun x_ h_ w_ vs_ le_ hs_ hx_ hr_ u_ hu_ => by cases hu_; obtain ⟨hr1_, hr2_⟩ := hr_; cases hr1_; simp only [big] at hr2_; exact c_leaf_Check_1 hs_ _ hr2_)) ?_
                intro r108 w109 h110 le111 st112 q113
                obtain rfl := q113
                refine OpsL.val rfl rfl (r_pickF (v := (.bool _)) rfl rfl) ?_
                refine OpsL.nil ?_
                refine Then.norm ?_
                refine W.cond rfl (fun c114 => ?_) (fun c114 => ?_)
                ·
                  refine W.seq ?_
                  refine W.region ?_
                  refine OpsL.val rfl rfl (r_asI rfl) ?_
                  refine OpsL.nil ?_
                  refine Then.norm ?_
                  refine W.exit ?_
                  refine Blk.miss rfl ?_
                  refine Then.exit ?_
                  refine Then.exit ?_
                  refine Blk.miss rfl ?_
                  refine Blk.miss rfl ?_
                  refine Then.exit ?_
                  refine Then.exit ?_
                  refine Blk.hit ?_
                  refine Then.norm ?_
                  refine W.seq ?_
                  refine W.region ?_
                  refine OpsL.val rfl rfl (r_mvI rfl) ?_
                  refine OpsL.val rfl rfl (r_asI rfl) ?_
                  refine OpsL.nil ?_
                  refine Then.norm ?_
                  refine W.ret ?_
                  refine NoGo.ret ?_
                  -- return r6
                  refine Post.ret1 Tryz.results47 ?_
                  refine ⟨h110, _, rfl, st112.done, ?_⟩
                  refine int_eq ?_
                  have q1 : lineB ln = false := by
                    have q := c114
                    rw [any_not] at q
                    simp only [lineB, Bool.and_eq_false_iff]
                    right; simpa using q
                  have q2 := not_all (p := lineB) hln q1
                  have q0 : chapterB c = false := by simp [chapterB, q2]
                  have q := not_all (p := chapterB) hc q0
                  simp [textB, q]
                ·
                  refine W.skip ?_
                  refine Blk.norm ?_
                  refine Then.norm ?_
                  refine W.region ?_
                  refine OpsL.val rfl rfl (r_add rfl rfl (by first | omega | (simp; omega))) ?_
                  refine OpsL.val rfl rfl (r_mvI rfl) ?_
                  refine OpsL.nil ?_
                  refine Then.norm ?_
                  refine ⟨⟨k2 + 1, o_4, h110⟩, ⟨rfl, rfl, trivial⟩, ?_, ⟨(((le84.trans le99).trans le103).trans le111), st112, ?_, ?_, ?_, ?_⟩, ?_⟩
                  · repeat (first | exact Agree.mix _ _ _ | exact Agree.refl _ _ | refine Agree.updO rfl ?_ | refine Agree.upd rfl ?_ | refine Agree.known rfl ?_ | refine Agree.sub rfl ?_)
                  · have q := hM_4
                    exact q
                  · have q := hN_4
                    exact q
                  · first | omega | (simp; omega)
                  · exact all_take_succ hl hln (by simp_all [lineB])
                  · show c.lines.length - ((k2 + 1)) < c.lines.length - k2
                    omega
            ·
              replace c87 := of_decide_eq_false c87
              refine W.exit ?_
              refine Then.exit ?_
              refine Then.exit ?_
              refine Blk.hit ?_
              refine Blk.norm ?_
              refine Then.norm ?_
              refine W.region ?_
              refine OpsL.val rfl rfl (r_add rfl rfl (by first | omega | (simp; omega))) ?_
              refine OpsL.val rfl rfl (r_mvI rfl) ?_
              refine OpsL.nil ?_
              refine Then.norm ?_
              have HCH : chapterB c = true := by
                have q := all_of_take hl (by omega)
                simp_all [chapterB]
              have HD : (look m c.id).getD false = false := by simp_all
              refine ⟨⟨i + 1, putM m c.id true, o_4, h83⟩, ⟨rfl, rfl, trivial⟩, ?_, ⟨((((((le28.trans le44).trans le53).trans le57).trans le69).trans le73).trans le84), st85.take 1, ?_, ?_, ?_, ?_, ?_, ?_⟩, ?_⟩
              · repeat (first | exact Agree.mix _ _ _ | exact Agree.refl _ _ | refine Agree.updO rfl ?_ | refine Agree.upd rfl ?_ | refine Agree.known rfl ?_ | refine Agree.sub rfl ?_)
              · have q := hM_4
                exact q
              · have q := hN_4
                exact q
              · first | omega | (simp; omega)
              · exact all_take_succ hA hc HCH
              · rw [take_snoc hc, List.map_append, List.nodup_append]
                refine ⟨hN, by simp, ?_⟩
                intro a ha b hb e
                simp only [List.map_cons, List.map_nil, List.mem_singleton] at hb
                subst hb
                subst e
                rw [hm] at HD
                exact absurd ha (by simpa using HD)
              · intro k
                rw [look_putM, take_snoc hc, List.map_append]
                by_cases e : k = c.id
                · simp [e]
                · simp only [if_neg e, hm]
                  simp [e]
              · show t.chapters.length - ((i + 1)) < t.chapters.length - i
                omega
    ·
      replace c31 := of_decide_eq_false c31
      refine W.exit ?_
      refine Then.exit ?_
      refine Then.exit ?_
      refine Blk.hit ?_
      refine Then.norm ?_
      refine W.seq ?_
      refine W.region ?_
      refine OpsL.val rfl rfl (r_mvI rfl) ?_
      refine OpsL.val rfl rfl (r_asI rfl) ?_
      refine OpsL.nil ?_
      refine Then.norm ?_
      refine W.ret ?_
      refine NoGo.ret ?_
      -- return r7
      refine Post.ret1 Tryz.results47 ?_
      refine ⟨h27, _, rfl, st29.done, ?_⟩
      refine int_eq ?_
      have q := all_of_take hA (by omega)
      have q2 : t.chapters.take i = t.chapters := List.take_of_length_le (by omega)
      rw [q2] at hN
      simp_all [textB]
end Go.Pk
